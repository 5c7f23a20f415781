/- Printed by dec.py: models of functions and the walks that show them. -/
import Derived.Test.YtcihbmdppgpmjaaIw0_1
import Derived.Test.YtcihbmdppgpmjaaIw1_3
set_option linter.unusedVariables false
set_option linter.unusedSimpArgs false
set_option linter.unnecessarySimpa false
set_option maxRecDepth 100000
namespace Go.Proofs.Ytcihbmdppgpmjaa.D
open Go.RowKit
set_option maxHeartbeats 8000000 in
theorem c_i_Automaton_refine (p0 : Int × (List Bool) × (List (List Int))) (p1 : List Int) (r : (List Int) × Int) (hm : m_i_Automaton_refine p0 p1 = some r) {I : Hp} {w0 : World} (va0 : Value) (va1 : Value) (va2 : Value) (ra0 : (rSlice 4 rBool).rd I [va0] p0.2.1) (ra1 : (rSlice 34 (rSlice 3 rInt)).rd I [va1] p0.2.2) (ra2 : (rSlice 3 rInt).rd I [va2] p1) : Con Try.prog 151 #[.agg #[.int .i64 p0.1, va0, va1], va2] I w0 [] (fun v => ∃ h0 : Value, v = .tuple #[h0, .int .i64 r.2]) (fun v => [Ch.own (rSlice 3 rInt) [vg v [0]] r.1]) := by
  refine con_of_wp (n := 70) [(0, .agg #[.int .i64 p0.1, va0, va1]), (1, va2)] Try.func151 rfl rfl (Nat.le_of_ble_eq_true rfl) (args_all ⟨rfl, rfl, trivial⟩) (fun F w a ha hs => ?_) (fun v => ⟨dp_own (dp_slice dp_int), trivial⟩)
  unfold m_i_Automaton_refine at hm
  refine wp_seq ?_
  refine wp_region_lit ?_
  refine seq_op ha hs rfl (opT_box (u := .agg #[.int .i64 p0.1, va0, va1]) (l := [.int .i64 p0.1, va0, va1]) rfl rfl rfl) (List.Perm.refl _) rfl ?_
  rintro _ aq1 wq1 ⟨g1, rfl⟩ haq1 (hsq1 : St I w0 wq1 [Ch.blk g1 [.int .i64 p0.1, va0, va1] 27, F])
  clear ha hs a w
  refine seq_op0 haq1 hsq1 (opT_assign (v := .slice none 0 0) rfl rfl) rfl rfl ?_
  rintro u aq2 wq2 hf haq2 hsq2
  obtain rfl := Eq.symm hf
  clear haq1 hsq1 aq1 wq1
  refine seq_op0 haq2 hsq2 (opT_assign (v := .int .i64 0) rfl rfl) rfl rfl ?_
  rintro u aq3 wq3 hf haq3 hsq3
  obtain rfl := Eq.symm hf
  clear haq2 hsq2 aq2 wq2
  refine wpList_nil ?_
  replace haq3 := haq3.pick' (L' := [(1, va2), (2, .pointer (some ⟨g1, 0, none⟩))]) ⟨rfl, rfl, trivial⟩
  refine nrm ?_
  refine wp_seq ?_
  refine wp_region_lit ?_
  refine seq_op haq3 hsq3 rfl (opT_lit0 (E := 34) (R := rSlice 3 rInt) Try.underlying23 ti34 rfl) (List.Perm.refl _) rfl ?_
  rintro v1 aq4 wq4 - haq4 (hsq4 : St I w0 wq4 [Ch.own (rSlice 34 (rSlice 3 rInt)) [v1] ([] : List (List Int)), Ch.blk g1 [.int .i64 p0.1, va0, va1] 27, F])
  clear haq3 hsq3 aq3 wq3
  refine seq_op0 haq4 hsq4 (opT_assign (v := v1) rfl rfl) rfl rfl ?_
  rintro u aq5 wq5 hf haq5 hsq5
  obtain rfl := Eq.symm hf
  clear haq4 hsq4 aq4 wq4
  refine wpList_nil ?_
  replace haq5 := haq5.pick' (L' := [(1, va2), (2, .pointer (some ⟨g1, 0, none⟩)), (6, v1)]) ⟨rfl, rfl, rfl, trivial⟩
  refine nrm ?_
  refine wp_seq ?_
  refine wp_region_lit ?_
  refine seq_op haq5 hsq5 rfl (opT_lit0 (E := 3) (R := rInt) Try.underlying34 ti3 rfl) (List.Perm.refl _) rfl ?_
  rintro v2 aq6 wq6 - haq6 (hsq6 : St I w0 wq6 [Ch.own (rSlice 3 rInt) [v2] ([] : List Int), Ch.own (rSlice 34 (rSlice 3 rInt)) [v1] ([] : List (List Int)), Ch.blk g1 [.int .i64 p0.1, va0, va1] 27, F])
  clear haq5 hsq5 aq5 wq5
  refine seq_op0 haq6 hsq6 (opT_assign (v := v2) rfl rfl) rfl rfl ?_
  rintro u aq7 wq7 hf haq7 hsq7
  obtain rfl := Eq.symm hf
  clear haq6 hsq6 aq6 wq6
  refine wpList_nil ?_
  replace haq7 := haq7.pick' (L' := [(1, va2), (2, .pointer (some ⟨g1, 0, none⟩)), (6, v1), (7, v2)]) ⟨rfl, rfl, rfl, rfl, trivial⟩
  refine nrm ?_
  refine wp_seq ?_
  refine wp_seq ?_
  refine wp_region_lit ?_
  refine seq_op0 haq7 hsq7 (opT_move (v := va2) rfl rfl) rfl rfl ?_
  rintro u aq8 wq8 hf haq8 hsq8
  obtain rfl := Eq.symm hf
  clear haq7 hsq7 aq7 wq7
  refine seq_op0 haq8 hsq8 (opT_len_hd (v := va2) (n := p1.length) (Hd.of_rd ra2) Try.underlying34 rfl rfl) rfl rfl ?_
  rintro u aq9 wq9 hf haq9 hsq9
  obtain rfl := Eq.symm hf
  clear haq8 hsq8 aq8 wq8
  refine seq_op0 haq9 hsq9 (opT_move (v := .int .i64 0) rfl rfl) rfl rfl ?_
  rintro u aq10 wq10 hf haq10 hsq10
  obtain rfl := Eq.symm hf
  clear haq9 hsq9 aq9 wq9
  refine wpList_nil ?_
  replace haq10 := haq10.pick' (L' := [(1, va2), (2, .pointer (some ⟨g1, 0, none⟩)), (6, v1), (7, v2), (16, va2), (17, .int .i64 (p1.length : Int)), (18, .int .i64 0)]) ⟨rfl, rfl, rfl, rfl, rfl, rfl, rfl, trivial⟩
  refine nrm ?_
  obtain ⟨o27, hl5, hc23⟩ := bindL_some hm
  refine wp_cut (fun a w => ∃ s38 : (List (List Int)) × (List Int) × Int, o27 = .brk s38 ∧ ∃ v89 v90 : Value, Agr 70 a [(6, v89), (7, v90)] ∧ St I w0 w [Ch.own (rSlice 34 (rSlice 3 rInt)) [v89] s38.1, Ch.own (rSlice 3 rInt) [v90] s38.2.1, F]) ?_ ?_
  · refine wp_block (wp_loopM (R := (List Int) × Int) (S := (List (List Int)) × (List Int) × Int) (fun s37 a w => ∃ v91 v92 : Value, Agr 70 a [(1, va2), (2, .pointer (some ⟨g1, 0, none⟩)), (6, v91), (7, v92), (16, va2), (17, .int .i64 (p1.length : Int)), (18, .int .i64 s37.2.2)] ∧ St I w0 w [Ch.own (rSlice 34 (rSlice 3 rInt)) [v91] s37.1, Ch.own (rSlice 3 rInt) [v92] s37.2.1, Ch.blk g1 [.int .i64 p0.1, va0, va1] 27, F]) hl5 ?_ ?_)
    · exact ⟨v1, v2, haq10.pick' ⟨rfl, rfl, rfl, rfl, rfl, rfl, rfl, trivial⟩, St.sel hsq10 4 [1, 0, 2, 3] rfl rfl⟩
    · rintro s37 o28 hm hf5 aq547 wq547 ⟨v91, v92, haq547, hsq547⟩
      unfold m_i_Automaton_refine_l0 at hm
      refine wp_seq ?_
      refine wp_region_lit ?_
      refine seq_op0 haq547 hsq547 (opT_cmp (k := .i64) (m := s37.2.2) (n := (p1.length : Int)) (c := decide (s37.2.2 < (p1.length : Int))) rfl rfl rfl rfl rfl) rfl rfl ?_
      rintro u aq548 wq548 hf haq548 hsq548
      obtain rfl := Eq.symm hf
      clear haq547 hsq547 aq547 wq547
      refine wpList_nil ?_
      replace haq548 := haq548.pick' (L' := [(1, va2), (2, .pointer (some ⟨g1, 0, none⟩)), (6, v91), (7, v92), (16, va2), (17, .int .i64 (p1.length : Int)), (18, .int .i64 s37.2.2), (19, .bool (decide (s37.2.2 < (p1.length : Int))))]) ⟨rfl, rfl, rfl, rfl, rfl, rfl, rfl, rfl, trivial⟩
      refine nrm ?_
      refine wp_seq ?_
      rcases two (decide (s37.2.2 < (p1.length : Int))) with hb51 | hb51
      · replace hm := ifFe hb51 hm
        refine cnd_false (b := decide (s37.2.2 < (p1.length : Int))) haq548 rfl rfl hb51 ?_
        refine wp_exit ?_
        refine thenX ?_
        refine thenX ?_
        refine ex_in ?_
        refine nrm ?_
        exact ⟨_, loopBrk hm hf5, ⟨v91, v92, haq548.pick' ⟨rfl, rfl, trivial⟩, St.sel hsq548 4 [0, 1, 3] rfl rfl⟩⟩
      · replace hm := ifTe hb51 hm
        refine cnd_true (b := decide (s37.2.2 < (p1.length : Int))) haq548 rfl rfl hb51 ?_
        refine wp_skip ?_
        refine nrm ?_
        obtain ⟨s47, hj23, hm⟩ := bind_some hm
        refine wp_seq_cut (fun a w => ∃ v113 v114 : Value, Agr 70 a [(1, va2), (2, .pointer (some ⟨g1, 0, none⟩)), (6, v113), (7, v114), (16, va2), (17, .int .i64 (p1.length : Int)), (18, .int .i64 s37.2.2)] ∧ St I w0 w [Ch.own (rSlice 34 (rSlice 3 rInt)) [v113] s47.1, Ch.own (rSlice 3 rInt) [v114] s47.2, Ch.blk g1 [.int .i64 p0.1, va0, va1] 27, F]) ?_ ?_
        · replace hm := hj23
          refine wp_block ?_
          refine wp_seq ?_
          refine wp_region_lit ?_
          refine seq_op0 haq548 hsq548 (opT_move (v := .int .i64 s37.2.2) rfl rfl) rfl rfl ?_
          rintro u aq681 wq681 hf haq681 hsq681
          obtain rfl := Eq.symm hf
          clear haq548 hsq548 aq548 wq548
          obtain ⟨x56, e96, hm⟩ := bind_some hm
          refine seq_op0 haq681 hsq681 (opT_index_hd (xs := p1) (i := s37.2.2) (n := 1) (Hd.of_rd ra2) Try.underlying34 ti3 rfl rfl rfl (getI_in e96)) rfl rfl ?_
          rintro u aq682 wq682 hf haq682 hsq682
          obtain rfl := Eq.symm hf
          clear haq681 hsq681 aq681 wq681
          refine seq_op0 haq682 hsq682 (opT_load_el (S := rInt) (xs := p1) (a := x56) (i := s37.2.2) (k := 1) (off := 0) (f := fun (x : Int) => x) ra2 e96 Fld.self ti3 rfl rfl rfl rfl rfl) rfl rfl ?_
          rintro u aq683 wq683 hf haq683 hsq683
          obtain rfl := lds_one hf
          clear haq682 hsq682 aq682 wq682
          refine seq_op0 haq683 hsq683 (opT_assign (v := .int .i64 s37.2.2) rfl rfl) rfl rfl ?_
          rintro u aq684 wq684 hf haq684 hsq684
          obtain rfl := Eq.symm hf
          clear haq683 hsq683 aq683 wq683
          refine seq_op0 haq684 hsq684 (opT_assign (v := .int .i64 x56) rfl rfl) rfl rfl ?_
          rintro u aq685 wq685 hf haq685 hsq685
          obtain rfl := Eq.symm hf
          clear haq684 hsq684 aq684 wq684
          refine wpList_nil ?_
          replace haq685 := haq685.pick' (L' := [(1, va2), (2, .pointer (some ⟨g1, 0, none⟩)), (6, v91), (7, v92), (8, .int .i64 s37.2.2), (9, .int .i64 x56), (16, va2), (17, .int .i64 (p1.length : Int)), (18, .int .i64 s37.2.2)]) ⟨rfl, rfl, rfl, rfl, rfl, rfl, rfl, rfl, rfl, trivial⟩
          refine nrm ?_
          refine wp_seq ?_
          refine wp_seq ?_
          refine wp_region_lit ?_
          refine seq_op0 haq685 hsq685 (opT_move (v := .int .i64 x56) rfl rfl) rfl rfl ?_
          rintro u aq686 wq686 hf haq686 hsq686
          obtain rfl := Eq.symm hf
          clear haq685 hsq685 aq685 wq685
          refine seq_op0 haq686 hsq686 (opT_cmp (k := .i64) (m := x56) (n := 0) (c := decide (x56 < 0)) rfl rfl rfl rfl rfl) rfl rfl ?_
          rintro u aq687 wq687 hf haq687 hsq687
          obtain rfl := Eq.symm hf
          clear haq686 hsq686 aq686 wq686
          refine wpList_nil ?_
          replace haq687 := haq687.pick' (L' := [(1, va2), (2, .pointer (some ⟨g1, 0, none⟩)), (6, v91), (7, v92), (8, .int .i64 s37.2.2), (9, .int .i64 x56), (16, va2), (17, .int .i64 (p1.length : Int)), (18, .int .i64 s37.2.2), (24, .bool (decide (x56 < 0)))]) ⟨rfl, rfl, rfl, rfl, rfl, rfl, rfl, rfl, rfl, rfl, trivial⟩
          refine nrm ?_
          rcases two (decide (x56 < 0)) with hb64 | hb64
          · replace hm := ifFe hb64 hm
            refine cnd_false (b := decide (x56 < 0)) haq687 rfl rfl hb64 ?_
            refine wp_skip ?_
            refine nrm ?_
            refine wp_seq ?_
            refine wp_region_lit ?_
            refine seq_op0 haq687 hsq687 (opT_move (v := .int .i64 x56) rfl rfl) rfl rfl ?_
            rintro u aq688 wq688 hf haq688 hsq688
            obtain rfl := Eq.symm hf
            clear haq687 hsq687 aq687 wq687
            refine seq_op haq688 hsq688 rfl (opT_lit_cpy (E := 3) (R := rInt) (S := rInt) [(.int .i64 x56, [.int .i64 x56])] [x56] cpy_int (rd_all ⟨rfl, trivial⟩) Try.underlying34 tz3 (by decide) rfl (by decide) (by decide) rfl rfl rfl rfl (us_all ⟨⟨rfl, rfl⟩, trivial⟩)) (List.Perm.refl _) rfl ?_
            rintro v115 aq689 wq689 - haq689 (hsq689 : St I w0 wq689 [Ch.own (rSlice 3 rInt) [v115] ([x56]), Ch.own (rSlice 34 (rSlice 3 rInt)) [v91] s37.1, Ch.own (rSlice 3 rInt) [v92] s37.2.1, Ch.blk g1 [.int .i64 p0.1, va0, va1] 27, F])
            clear haq688 hsq688 aq688 wq688
            refine seq_op haq689 hsq689 rfl (opT_alloc (l := [.slice none 0 0]) tz34 rfl rfl) (List.Perm.refl _) rfl ?_
            rintro _ aq690 wq690 ⟨g7, rfl⟩ haq690 (hsq690 : St I w0 wq690 [Ch.blk g7 [.slice none 0 0] 34, Ch.own (rSlice 3 rInt) [v115] ([x56]), Ch.own (rSlice 34 (rSlice 3 rInt)) [v91] s37.1, Ch.own (rSlice 3 rInt) [v92] s37.2.1, Ch.blk g1 [.int .i64 p0.1, va0, va1] 27, F])
            clear haq689 hsq689 aq689 wq689
            refine seq_op haq690 hsq690 rfl (opT_store_blk (g := g7) (off := 0) (l := [.slice none 0 0]) (d := [v115]) (E := 34) (u := v115) ti34 rfl rfl rfl (Hd.cells (St.hd hsq690 1 rfl).1) rfl (allC (Hd.one (St.hd hsq690 1 rfl).1) allN) (Nat.le_of_ble_eq_true rfl)) (perm_front (i := 0) rfl) rfl ?_
            rintro _ aq691 wq691 - haq691 (hsq691 : St I w0 wq691 [Ch.blk g7 [v115] 34, Ch.own (rSlice 3 rInt) [v115] ([x56]), Ch.own (rSlice 34 (rSlice 3 rInt)) [v91] s37.1, Ch.own (rSlice 3 rInt) [v92] s37.2.1, Ch.blk g1 [.int .i64 p0.1, va0, va1] 27, F])
            clear haq690 hsq690 aq690 wq690
            refine wpList_nil ?_
            replace haq691 := haq691.pick' (L' := [(1, va2), (2, .pointer (some ⟨g1, 0, none⟩)), (6, v91), (7, v92), (8, .int .i64 s37.2.2), (10, .pointer (some ⟨g7, 0, none⟩)), (16, va2), (17, .int .i64 (p1.length : Int)), (18, .int .i64 s37.2.2)]) ⟨rfl, rfl, rfl, rfl, rfl, rfl, rfl, rfl, rfl, trivial⟩
            refine nrm ?_
            refine wp_seq ?_
            refine wp_seq ?_
            refine wp_region_lit ?_
            refine seq_op0 haq691 hsq691 (opT_field_addr (g := g1) (b := 0) tf27_2 rfl rfl) rfl rfl ?_
            rintro u aq692 wq692 hf haq692 hsq692
            obtain rfl := Eq.symm hf
            clear haq691 hsq691 aq691 wq691
            refine seq_op haq692 hsq692 rfl (opT_load_blk (g := g1) (off := 2) (E := 27) (l := [.int .i64 p0.1, va0, va1]) (d := [va1]) (u := va1) ti23 rfl rfl rfl rfl rfl rfl) (perm_front (i := 4) rfl) rfl ?_
            rintro u aq693 wq693 hf haq693 (hsq693 : St I w0 wq693 [Ch.blk g1 [.int .i64 p0.1, va0, va1] 27, Ch.blk g7 [v115] 34, Ch.own (rSlice 3 rInt) [v115] ([x56]), Ch.own (rSlice 34 (rSlice 3 rInt)) [v91] s37.1, Ch.own (rSlice 3 rInt) [v92] s37.2.1, F])
            obtain rfl := Eq.symm hf
            clear haq692 hsq692 aq692 wq692
            refine seq_op0 haq693 hsq693 (opT_move (v := .int .i64 s37.2.2) rfl rfl) rfl rfl ?_
            rintro u aq694 wq694 hf haq694 hsq694
            obtain rfl := Eq.symm hf
            clear haq693 hsq693 aq693 wq693
            obtain ⟨x57, e97, hm⟩ := bind_some hm
            refine seq_op0 haq694 hsq694 (opT_index_hd (xs := p0.2.2) (i := s37.2.2) (n := 1) (Hd.of_rd ra1) Try.underlying23 ti34 rfl rfl rfl (getI_in e97)) rfl rfl ?_
            rintro u aq695 wq695 hf haq695 hsq695
            obtain rfl := Eq.symm hf
            clear haq694 hsq694 aq694 wq694
            refine seq_op0 haq695 hsq695 (opT_load_el (S := rSlice 3 rInt) (xs := p0.2.2) (a := x57) (i := s37.2.2) (k := 1) (off := 0) (f := fun (x : List Int) => x) ra1 e97 Fld.self ti34 rfl rfl rfl rfl rfl) rfl rfl ?_
            rintro v116 aq696 wq696 hf haq696 hsq696
            have r11 := lds_sl hf
            clear hf
            clear haq695 hsq695 aq695 wq695
            refine seq_op0 haq696 hsq696 (opT_len_hd (v := v116) (n := x57.length) (Hd.of_rd r11) Try.underlying34 rfl rfl) rfl rfl ?_
            rintro u aq697 wq697 hf haq697 hsq697
            obtain rfl := Eq.symm hf
            clear haq696 hsq696 aq696 wq696
            refine seq_op0 haq697 hsq697 (opT_move (v := .int .i64 0) rfl rfl) rfl rfl ?_
            rintro u aq698 wq698 hf haq698 hsq698
            obtain rfl := Eq.symm hf
            clear haq697 hsq697 aq697 wq697
            refine wpList_nil ?_
            replace haq698 := haq698.pick' (L' := [(1, va2), (2, .pointer (some ⟨g1, 0, none⟩)), (6, v91), (7, v92), (10, .pointer (some ⟨g7, 0, none⟩)), (16, va2), (17, .int .i64 (p1.length : Int)), (18, .int .i64 s37.2.2), (34, v116), (35, .int .i64 (x57.length : Int)), (36, .int .i64 0)]) ⟨rfl, rfl, rfl, rfl, rfl, rfl, rfl, rfl, rfl, rfl, rfl, trivial⟩
            refine nrm ?_
            obtain ⟨o38, hl7, hc32⟩ := bindL_some hm
            refine wp_cut (fun a w => ∃ s53 : Int × (List Int), o38 = .brk s53 ∧ ∃ v122 : Value, Agr 70 a [(1, va2), (2, .pointer (some ⟨g1, 0, none⟩)), (6, v91), (7, v92), (10, .pointer (some ⟨g7, 0, none⟩)), (16, va2), (17, .int .i64 (p1.length : Int)), (18, .int .i64 s37.2.2)] ∧ St I w0 w [Ch.own (rSlice 3 rInt) [v122] s53.2, Ch.blk g1 [.int .i64 p0.1, va0, va1] 27, Ch.own (rSlice 34 (rSlice 3 rInt)) [v91] s37.1, Ch.own (rSlice 3 rInt) [v92] s37.2.1, Ch.blk g7 [v122] 34, F]) ?_ ?_
            · refine wp_block (wp_loopM (R := (List Int) × Int) (S := Int × (List Int)) (fun s52 a w => ∃ v123 : Value, Agr 70 a [(1, va2), (2, .pointer (some ⟨g1, 0, none⟩)), (6, v91), (7, v92), (10, .pointer (some ⟨g7, 0, none⟩)), (16, va2), (17, .int .i64 (p1.length : Int)), (18, .int .i64 s37.2.2), (34, v116), (35, .int .i64 (x57.length : Int)), (36, .int .i64 s52.1)] ∧ St I w0 w [Ch.own (rSlice 3 rInt) [v123] s52.2, Ch.blk g1 [.int .i64 p0.1, va0, va1] 27, Ch.own (rSlice 34 (rSlice 3 rInt)) [v91] s37.1, Ch.own (rSlice 3 rInt) [v92] s37.2.1, Ch.blk g7 [v123] 34, F]) hl7 ?_ ?_)
              · exact ⟨v115, haq698.pick' ⟨rfl, rfl, rfl, rfl, rfl, rfl, rfl, rfl, rfl, rfl, rfl, trivial⟩, St.sel hsq698 6 [2, 0, 3, 4, 1, 5] rfl rfl⟩
              · rintro s52 o39 hm hf7 aq751 wq751 ⟨v123, haq751, hsq751⟩
                unfold m_i_Automaton_refine_l1 at hm
                refine wp_seq ?_
                refine wp_region_lit ?_
                refine seq_op0 haq751 hsq751 (opT_cmp (k := .i64) (m := s52.1) (n := (x57.length : Int)) (c := decide (s52.1 < (x57.length : Int))) rfl rfl rfl rfl rfl) rfl rfl ?_
                rintro u aq752 wq752 hf haq752 hsq752
                obtain rfl := Eq.symm hf
                clear haq751 hsq751 aq751 wq751
                refine wpList_nil ?_
                replace haq752 := haq752.pick' (L' := [(1, va2), (2, .pointer (some ⟨g1, 0, none⟩)), (6, v91), (7, v92), (10, .pointer (some ⟨g7, 0, none⟩)), (16, va2), (17, .int .i64 (p1.length : Int)), (18, .int .i64 s37.2.2), (34, v116), (35, .int .i64 (x57.length : Int)), (36, .int .i64 s52.1), (37, .bool (decide (s52.1 < (x57.length : Int))))]) ⟨rfl, rfl, rfl, rfl, rfl, rfl, rfl, rfl, rfl, rfl, rfl, rfl, trivial⟩
                refine nrm ?_
                refine wp_seq ?_
                rcases two (decide (s52.1 < (x57.length : Int))) with hb71 | hb71
                · replace hm := ifFe hb71 hm
                  refine cnd_false (b := decide (s52.1 < (x57.length : Int))) haq752 rfl rfl hb71 ?_
                  refine wp_exit ?_
                  refine thenX ?_
                  refine thenX ?_
                  refine ex_in ?_
                  refine nrm ?_
                  exact ⟨_, loopBrk hm hf7, ⟨v123, haq752.pick' ⟨rfl, rfl, rfl, rfl, rfl, rfl, rfl, rfl, trivial⟩, St.sel hsq752 6 [0, 1, 2, 3, 4, 5] rfl rfl⟩⟩
                · replace hm := ifTe hb71 hm
                  refine cnd_true (b := decide (s52.1 < (x57.length : Int))) haq752 rfl rfl hb71 ?_
                  refine wp_skip ?_
                  refine nrm ?_
                  refine wp_seq ?_
                  refine wp_block ?_
                  refine wp_seq ?_
                  refine wp_region_lit ?_
                  obtain ⟨x64, e106, hm⟩ := bind_some hm
                  refine seq_op0 haq752 hsq752 (opT_index_hd (xs := x57) (i := s52.1) (n := 1) (Hd.of_rd r11) Try.underlying34 ti3 rfl rfl rfl (getI_in e106)) rfl rfl ?_
                  rintro u aq753 wq753 hf haq753 hsq753
                  obtain rfl := Eq.symm hf
                  clear haq752 hsq752 aq752 wq752
                  refine seq_op0 haq753 hsq753 (opT_load_el (S := rInt) (xs := x57) (a := x64) (i := s52.1) (k := 1) (off := 0) (f := fun (x : Int) => x) r11 e106 Fld.self ti3 rfl rfl rfl rfl rfl) rfl rfl ?_
                  rintro u aq754 wq754 hf haq754 hsq754
                  obtain rfl := lds_one hf
                  clear haq753 hsq753 aq753 wq753
                  refine seq_op0 haq754 hsq754 (opT_assign (v := .int .i64 x64) rfl rfl) rfl rfl ?_
                  rintro u aq755 wq755 hf haq755 hsq755
                  obtain rfl := Eq.symm hf
                  clear haq754 hsq754 aq754 wq754
                  refine wpList_nil ?_
                  replace haq755 := haq755.pick' (L' := [(1, va2), (2, .pointer (some ⟨g1, 0, none⟩)), (6, v91), (7, v92), (10, .pointer (some ⟨g7, 0, none⟩)), (12, .int .i64 x64), (16, va2), (17, .int .i64 (p1.length : Int)), (18, .int .i64 s37.2.2), (34, v116), (35, .int .i64 (x57.length : Int)), (36, .int .i64 s52.1)]) ⟨rfl, rfl, rfl, rfl, rfl, rfl, rfl, rfl, rfl, rfl, rfl, rfl, trivial⟩
                  refine nrm ?_
                  obtain ⟨s54, hj26, hm⟩ := bind_some hm
                  refine wp_seq_cut (fun a w => Agr 70 a [(1, va2), (2, .pointer (some ⟨g1, 0, none⟩)), (6, v91), (7, v92), (10, .pointer (some ⟨g7, 0, none⟩)), (12, .int .i64 s54), (16, va2), (17, .int .i64 (p1.length : Int)), (18, .int .i64 s37.2.2), (34, v116), (35, .int .i64 (x57.length : Int)), (36, .int .i64 s52.1)] ∧ St I w0 w [Ch.blk g1 [.int .i64 p0.1, va0, va1] 27, Ch.own (rSlice 34 (rSlice 3 rInt)) [v91] s37.1, Ch.own (rSlice 3 rInt) [v92] s37.2.1, Ch.blk g7 [v123] 34, Ch.own (rSlice 3 rInt) [v123] s52.2, F]) ?_ ?_
                  · replace hm := hj26
                    refine wp_seq ?_
                    refine wp_region_lit ?_
                    refine seq_op0 haq755 hsq755 (opT_move (v := .int .i64 x64) rfl rfl) rfl rfl ?_
                    rintro u aq763 wq763 hf haq763 hsq763
                    obtain rfl := Eq.symm hf
                    clear haq755 hsq755 aq755 wq755
                    refine seq_op0 haq763 hsq763 (opT_cmp (k := .i64) (m := x64) (n := 0) (c := decide (x64 ≥ 0)) rfl rfl rfl rfl rfl) rfl rfl ?_
                    rintro u aq764 wq764 hf haq764 hsq764
                    obtain rfl := Eq.symm hf
                    clear haq763 hsq763 aq763 wq763
                    refine wpList_nil ?_
                    replace haq764 := haq764.pick' (L' := [(1, va2), (2, .pointer (some ⟨g1, 0, none⟩)), (6, v91), (7, v92), (10, .pointer (some ⟨g7, 0, none⟩)), (12, .int .i64 x64), (16, va2), (17, .int .i64 (p1.length : Int)), (18, .int .i64 s37.2.2), (34, v116), (35, .int .i64 (x57.length : Int)), (36, .int .i64 s52.1), (41, .bool (decide (x64 ≥ 0)))]) ⟨rfl, rfl, rfl, rfl, rfl, rfl, rfl, rfl, rfl, rfl, rfl, rfl, rfl, trivial⟩
                    refine nrm ?_
                    rcases two (decide (x64 ≥ 0)) with hb73 | hb73
                    · replace hm := ifFe hb73 hm
                      refine cnd_false (b := decide (x64 ≥ 0)) haq764 rfl rfl hb73 ?_
                      refine wp_skip ?_
                      refine nrm ?_
                      obtain rfl := Option.some.inj hm
                      exact ⟨haq764.pick' ⟨rfl, rfl, rfl, rfl, rfl, rfl, rfl, rfl, rfl, rfl, rfl, rfl, trivial⟩, St.sel hsq764 6 [1, 2, 3, 4, 0, 5] rfl rfl⟩
                    · replace hm := ifTe hb73 hm
                      refine cnd_true (b := decide (x64 ≥ 0)) haq764 rfl rfl hb73 ?_
                      refine wp_region_lit ?_
                      refine seq_op0 haq764 hsq764 (opT_move (v := va2) rfl rfl) rfl rfl ?_
                      rintro u aq765 wq765 hf haq765 hsq765
                      obtain rfl := Eq.symm hf
                      clear haq764 hsq764 aq764 wq764
                      refine seq_op0 haq765 hsq765 (opT_move (v := .int .i64 x64) rfl rfl) rfl rfl ?_
                      rintro u aq766 wq766 hf haq766 hsq766
                      obtain rfl := Eq.symm hf
                      clear haq765 hsq765 aq765 wq765
                      obtain ⟨x66, e108, hm⟩ := bind_some hm
                      refine seq_op0 haq766 hsq766 (opT_index_hd (xs := p1) (i := x64) (n := 1) (Hd.of_rd ra2) Try.underlying34 ti3 rfl rfl rfl (getI_in e108)) rfl rfl ?_
                      rintro u aq767 wq767 hf haq767 hsq767
                      obtain rfl := Eq.symm hf
                      clear haq766 hsq766 aq766 wq766
                      refine seq_op0 haq767 hsq767 (opT_load_el (S := rInt) (xs := p1) (a := x66) (i := x64) (k := 1) (off := 0) (f := fun (x : Int) => x) ra2 e108 Fld.self ti3 rfl rfl rfl rfl rfl) rfl rfl ?_
                      rintro u aq768 wq768 hf haq768 hsq768
                      obtain rfl := lds_one hf
                      clear haq767 hsq767 aq767 wq767
                      refine seq_op0 haq768 hsq768 (opT_assign (v := .int .i64 x66) rfl rfl) rfl rfl ?_
                      rintro u aq769 wq769 hf haq769 hsq769
                      obtain rfl := Eq.symm hf
                      clear haq768 hsq768 aq768 wq768
                      refine wpList_nil ?_
                      replace haq769 := haq769.pick' (L' := [(1, va2), (2, .pointer (some ⟨g1, 0, none⟩)), (6, v91), (7, v92), (10, .pointer (some ⟨g7, 0, none⟩)), (12, .int .i64 x66), (16, va2), (17, .int .i64 (p1.length : Int)), (18, .int .i64 s37.2.2), (34, v116), (35, .int .i64 (x57.length : Int)), (36, .int .i64 s52.1)]) ⟨rfl, rfl, rfl, rfl, rfl, rfl, rfl, rfl, rfl, rfl, rfl, rfl, trivial⟩
                      refine nrm ?_
                      obtain rfl := Option.some.inj hm
                      exact ⟨haq769.pick' ⟨rfl, rfl, rfl, rfl, rfl, rfl, rfl, rfl, rfl, rfl, rfl, rfl, trivial⟩, St.sel hsq769 6 [1, 2, 3, 4, 0, 5] rfl rfl⟩
                  · rintro aq770 wq770 ⟨haq770, hsq770⟩
                    refine wp_region_lit ?_
                    refine seq_op haq770 hsq770 rfl (opT_load_blk (g := g7) (off := 0) (E := 34) (l := [v123]) (d := [v123]) (u := v123) ti34 rfl rfl rfl rfl rfl rfl) (perm_front (i := 3) rfl) rfl ?_
                    rintro u aq771 wq771 hf haq771 (hsq771 : St I w0 wq771 [Ch.blk g7 [v123] 34, Ch.blk g1 [.int .i64 p0.1, va0, va1] 27, Ch.own (rSlice 34 (rSlice 3 rInt)) [v91] s37.1, Ch.own (rSlice 3 rInt) [v92] s37.2.1, Ch.own (rSlice 3 rInt) [v123] s52.2, F])
                    obtain rfl := Eq.symm hf
                    clear haq770 hsq770 aq770 wq770
                    refine seq_op0 haq771 hsq771 (opT_move (v := .int .i64 s54) rfl rfl) rfl rfl ?_
                    rintro u aq772 wq772 hf haq772 hsq772
                    obtain rfl := Eq.symm hf
                    clear haq771 hsq771 aq771 wq771
                    refine seq_op haq772 hsq772 rfl (opT_lit_cpy (E := 3) (R := rInt) (S := rInt) [(.int .i64 s54, [.int .i64 s54])] [s54] cpy_int (rd_all ⟨rfl, trivial⟩) Try.underlying34 tz3 (by decide) rfl (by decide) (by decide) rfl rfl rfl rfl (us_all ⟨⟨rfl, rfl⟩, trivial⟩)) (List.Perm.refl _) rfl ?_
                    rintro v124 aq773 wq773 - haq773 (hsq773 : St I w0 wq773 [Ch.own (rSlice 3 rInt) [v124] ([s54]), Ch.blk g7 [v123] 34, Ch.blk g1 [.int .i64 p0.1, va0, va1] 27, Ch.own (rSlice 34 (rSlice 3 rInt)) [v91] s37.1, Ch.own (rSlice 3 rInt) [v92] s37.2.1, Ch.own (rSlice 3 rInt) [v123] s52.2, F])
                    clear haq772 hsq772 aq772 wq772
                    obtain ⟨z38, e109, hm⟩ := bind_some hm
                    refine seq_op haq773 hsq773 rfl (opT_app (E := 3) (R := rInt) (s := v123) (u := v124) e109 Try.underlying34 tz3 rfl (by decide) rfl (by decide) rfl rfl rfl) (perm_sel [5, 0, 1, 2, 3, 4, 6] (m := 7) rfl rfl) rfl ?_
                    rintro v125 aq774 wq774 - haq774 (hsq774 : St I w0 wq774 [Ch.own (rSlice 3 rInt) [v125] z38, Ch.blk g7 [v123] 34, Ch.blk g1 [.int .i64 p0.1, va0, va1] 27, Ch.own (rSlice 34 (rSlice 3 rInt)) [v91] s37.1, Ch.own (rSlice 3 rInt) [v92] s37.2.1, F])
                    clear haq773 hsq773 aq773 wq773
                    refine seq_op haq774 hsq774 rfl (opT_store_blk (g := g7) (off := 0) (l := [v123]) (d := [v125]) (E := 34) (u := v125) ti34 rfl rfl rfl (Hd.cells (St.hd hsq774 0 rfl).1) rfl (allC (Hd.one (St.hd hsq774 0 rfl).1) allN) (Nat.le_of_ble_eq_true rfl)) (perm_front (i := 1) rfl) rfl ?_
                    rintro _ aq775 wq775 - haq775 (hsq775 : St I w0 wq775 [Ch.blk g7 [v125] 34, Ch.own (rSlice 3 rInt) [v125] z38, Ch.blk g1 [.int .i64 p0.1, va0, va1] 27, Ch.own (rSlice 34 (rSlice 3 rInt)) [v91] s37.1, Ch.own (rSlice 3 rInt) [v92] s37.2.1, F])
                    clear haq774 hsq774 aq774 wq774
                    refine wpList_nil ?_
                    replace haq775 := haq775.pick' (L' := [(1, va2), (2, .pointer (some ⟨g1, 0, none⟩)), (6, v91), (7, v92), (10, .pointer (some ⟨g7, 0, none⟩)), (16, va2), (17, .int .i64 (p1.length : Int)), (18, .int .i64 s37.2.2), (34, v116), (35, .int .i64 (x57.length : Int)), (36, .int .i64 s52.1)]) ⟨rfl, rfl, rfl, rfl, rfl, rfl, rfl, rfl, rfl, rfl, rfl, trivial⟩
                    refine nrmB ?_
                    refine nrm ?_
                    refine wp_region_lit ?_
                    refine seq_op0 haq775 hsq775 (opT_add (m := s52.1) (n := 1) rfl rfl rfl) rfl rfl ?_
                    rintro u aq776 wq776 hf haq776 hsq776
                    obtain rfl := Eq.symm hf
                    clear haq775 hsq775 aq775 wq775
                    refine seq_op0 haq776 hsq776 (opT_move (v := .int .i64 (IntKind.i64.wrap (s52.1 + 1))) rfl rfl) rfl rfl ?_
                    rintro u aq777 wq777 hf haq777 hsq777
                    obtain rfl := Eq.symm hf
                    clear haq776 hsq776 aq776 wq776
                    refine wpList_nil ?_
                    replace haq777 := haq777.pick' (L' := [(1, va2), (2, .pointer (some ⟨g1, 0, none⟩)), (6, v91), (7, v92), (10, .pointer (some ⟨g7, 0, none⟩)), (16, va2), (17, .int .i64 (p1.length : Int)), (18, .int .i64 s37.2.2), (34, v116), (35, .int .i64 (x57.length : Int)), (36, .int .i64 (IntKind.i64.wrap (s52.1 + 1)))]) ⟨rfl, rfl, rfl, rfl, rfl, rfl, rfl, rfl, rfl, rfl, rfl, trivial⟩
                    refine nrm ?_
                    exact ⟨_, (Option.some.inj hm).symm, ⟨v125, haq777.pick' ⟨rfl, rfl, rfl, rfl, rfl, rfl, rfl, rfl, rfl, rfl, rfl, trivial⟩, St.sel hsq777 6 [1, 2, 3, 4, 0, 5] rfl rfl⟩⟩
            · rintro aq778 wq778 ⟨s53, ho31, v122, haq778, hsq778⟩
              replace hm := loopOut ho31 hc32
              clear ho31 hc32 hl7
              refine nrm ?_
              refine wp_seq ?_
              refine wp_region_lit ?_
              refine seq_op0 haq778 hsq778 (opT_move (v := v91) rfl rfl) rfl rfl ?_
              rintro u aq779 wq779 hf haq779 hsq779
              obtain rfl := Eq.symm hf
              clear haq778 hsq778 aq778 wq778
              refine seq_op0 haq779 hsq779 (opT_make_func (v := .func (.func 173) #[] #[.pointer (some ⟨g7, 0, none⟩)]) rfl rfl) rfl rfl ?_
              rintro u aq780 wq780 hf haq780 hsq780
              obtain rfl := Eq.symm hf
              clear haq779 hsq779 aq779 wq779
              obtain ⟨r12, e110, hm⟩ := bind_some hm
              refine seq_op haq780 hsq780 rfl (OpT.lend (ls := [Ch.own (rSlice 34 (rSlice 3 rInt)) [v91] s37.1, Ch.blk g7 [v122] 34, Ch.own (rSlice 3 rInt) [v122] s53.2]) (gv := fun v => []) (fun _ => trivial) fun J hJ hl hb => opT_call (args := #[v91, .func (.func 173) #[] #[.pointer (some ⟨g7, 0, none⟩)]]) (first := #[]) (captured := #[]) en172 rfl rfl rfl (c_g_slices_IndexFunc_S_S_int_S_int s37.1 (fun a0 => m_i_Automaton_refine_1 a0 s53.2) _ e110 v91 (.func (.func 173) #[] #[.pointer (some ⟨g7, 0, none⟩)]) (hl _ _ _ (List.Mem.head _)) ⟨isFn, fun J6 hJ6 b6_0 r hm k6_0 l6_0 => ⟨173, #[], #[.pointer (some ⟨g7, 0, none⟩)], rfl, en173, c_i_Automaton_refine_1 b6_0 s53.2 _ hm k6_0 g7 v122 l6_0 (hJ6 _ _ (hb _ _ _ (List.Mem.tail _ (List.Mem.head _)))) (Rep.rd_mono _ (hl _ _ _ (List.Mem.tail _ (List.Mem.tail _ (List.Mem.head _)))) hJ6)⟩⟩)) (perm_sel [2, 4, 0, 1, 3, 5] (m := 6) rfl rfl) rfl ?_
              rintro u aq781 wq781 hf haq781 (hsq781 : St I w0 wq781 [Ch.own (rSlice 34 (rSlice 3 rInt)) [v91] s37.1, Ch.blk g7 [v122] 34, Ch.own (rSlice 3 rInt) [v122] s53.2, Ch.blk g1 [.int .i64 p0.1, va0, va1] 27, Ch.own (rSlice 3 rInt) [v92] s37.2.1, F])
              obtain rfl := Eq.symm hf
              clear haq780 hsq780 aq780 wq780
              refine seq_op0 haq781 hsq781 (opT_assign (v := .int .i64 r12) rfl rfl) rfl rfl ?_
              rintro u aq782 wq782 hf haq782 hsq782
              obtain rfl := Eq.symm hf
              clear haq781 hsq781 aq781 wq781
              refine wpList_nil ?_
              replace haq782 := haq782.pick' (L' := [(1, va2), (2, .pointer (some ⟨g1, 0, none⟩)), (6, v91), (7, v92), (10, .pointer (some ⟨g7, 0, none⟩)), (13, .int .i64 r12), (16, va2), (17, .int .i64 (p1.length : Int)), (18, .int .i64 s37.2.2)]) ⟨rfl, rfl, rfl, rfl, rfl, rfl, rfl, rfl, rfl, trivial⟩
              refine nrm ?_
              obtain ⟨s55, hj27, hm⟩ := bind_some hm
              refine wp_seq_cut (fun a w => ∃ v128 : Value, Agr 70 a [(1, va2), (2, .pointer (some ⟨g1, 0, none⟩)), (6, v128), (7, v92), (13, .int .i64 s55.2), (16, va2), (17, .int .i64 (p1.length : Int)), (18, .int .i64 s37.2.2)] ∧ St I w0 w [Ch.own (rSlice 34 (rSlice 3 rInt)) [v128] s55.1, Ch.blk g1 [.int .i64 p0.1, va0, va1] 27, Ch.own (rSlice 3 rInt) [v92] s37.2.1, F]) ?_ ?_
              · replace hm := hj27
                refine wp_seq ?_
                refine wp_region_lit ?_
                refine seq_op0 haq782 hsq782 (opT_move (v := .int .i64 r12) rfl rfl) rfl rfl ?_
                rintro u aq793 wq793 hf haq793 hsq793
                obtain rfl := Eq.symm hf
                clear haq782 hsq782 aq782 wq782
                refine seq_op0 haq793 hsq793 (opT_cmp (k := .i64) (m := r12) (n := 0) (c := decide (r12 < 0)) rfl rfl rfl rfl rfl) rfl rfl ?_
                rintro u aq794 wq794 hf haq794 hsq794
                obtain rfl := Eq.symm hf
                clear haq793 hsq793 aq793 wq793
                refine wpList_nil ?_
                replace haq794 := haq794.pick' (L' := [(1, va2), (2, .pointer (some ⟨g1, 0, none⟩)), (6, v91), (7, v92), (10, .pointer (some ⟨g7, 0, none⟩)), (13, .int .i64 r12), (16, va2), (17, .int .i64 (p1.length : Int)), (18, .int .i64 s37.2.2), (55, .bool (decide (r12 < 0)))]) ⟨rfl, rfl, rfl, rfl, rfl, rfl, rfl, rfl, rfl, rfl, trivial⟩
                refine nrm ?_
                rcases two (decide (r12 < 0)) with hb75 | hb75
                · replace hm := ifFe hb75 hm
                  refine cnd_false (b := decide (r12 < 0)) haq794 rfl rfl hb75 ?_
                  refine wp_skip ?_
                  refine nrm ?_
                  obtain rfl := Option.some.inj hm
                  exact ⟨v91, haq794.pick' ⟨rfl, rfl, rfl, rfl, rfl, rfl, rfl, rfl, trivial⟩, St.sel hsq794 6 [0, 3, 4, 5] rfl rfl⟩
                · replace hm := ifTe hb75 hm
                  refine cnd_true (b := decide (r12 < 0)) haq794 rfl rfl hb75 ?_
                  refine wp_seq ?_
                  refine wp_region_lit ?_
                  refine seq_op0 haq794 hsq794 (opT_move (v := v91) rfl rfl) rfl rfl ?_
                  rintro u aq795 wq795 hf haq795 hsq795
                  obtain rfl := Eq.symm hf
                  clear haq794 hsq794 aq794 wq794
                  refine seq_op0 haq795 hsq795 (opT_len_hd (v := v91) (n := s37.1.length) (St.hd hsq795 0 rfl).1 Try.underlying23 rfl rfl) rfl rfl ?_
                  rintro u aq796 wq796 hf haq796 hsq796
                  obtain rfl := Eq.symm hf
                  clear haq795 hsq795 aq795 wq795
                  refine seq_op0 haq796 hsq796 (opT_assign (v := .int .i64 (s37.1.length : Int)) rfl rfl) rfl rfl ?_
                  rintro u aq797 wq797 hf haq797 hsq797
                  obtain rfl := Eq.symm hf
                  clear haq796 hsq796 aq796 wq796
                  refine wpList_nil ?_
                  replace haq797 := haq797.pick' (L' := [(1, va2), (2, .pointer (some ⟨g1, 0, none⟩)), (6, v91), (7, v92), (10, .pointer (some ⟨g7, 0, none⟩)), (13, .int .i64 (s37.1.length : Int)), (16, va2), (17, .int .i64 (p1.length : Int)), (18, .int .i64 s37.2.2)]) ⟨rfl, rfl, rfl, rfl, rfl, rfl, rfl, rfl, rfl, trivial⟩
                  refine nrm ?_
                  refine wp_region_lit ?_
                  refine seq_op0 haq797 hsq797 (opT_move (v := v91) rfl rfl) rfl rfl ?_
                  rintro u aq798 wq798 hf haq798 hsq798
                  obtain rfl := Eq.symm hf
                  clear haq797 hsq797 aq797 wq797
                  refine seq_op haq798 hsq798 rfl (opT_load_blk (g := g7) (off := 0) (E := 34) (l := [v122]) (d := [v122]) (u := v122) ti34 rfl rfl rfl rfl rfl rfl) (perm_front (i := 1) rfl) rfl ?_
                  rintro u aq799 wq799 hf haq799 (hsq799 : St I w0 wq799 [Ch.blk g7 [v122] 34, Ch.own (rSlice 34 (rSlice 3 rInt)) [v91] s37.1, Ch.own (rSlice 3 rInt) [v122] s53.2, Ch.blk g1 [.int .i64 p0.1, va0, va1] 27, Ch.own (rSlice 3 rInt) [v92] s37.2.1, F])
                  obtain rfl := Eq.symm hf
                  clear haq798 hsq798 aq798 wq798
                  refine seq_op haq799 hsq799 rfl (opT_lit (E := 34) (R := rSlice 3 rInt) [(v122, [v122])] [s53.2] Try.underlying23 tz34 (by decide) rfl (by decide) (by decide) rfl rfl rfl rfl (us_all ⟨⟨(Hd.cells (St.hd hsq799 2 rfl).1), rfl⟩, trivial⟩)) (perm_front (i := 2) rfl) rfl ?_
                  rintro v129 aq800 wq800 - haq800 (hsq800 : St I w0 wq800 [Ch.own (rSlice 34 (rSlice 3 rInt)) [v129] ([s53.2]), Ch.blk g7 [v122] 34, Ch.own (rSlice 34 (rSlice 3 rInt)) [v91] s37.1, Ch.blk g1 [.int .i64 p0.1, va0, va1] 27, Ch.own (rSlice 3 rInt) [v92] s37.2.1, F])
                  clear haq799 hsq799 aq799 wq799
                  obtain ⟨z40, e112, hm⟩ := bind_some hm
                  refine seq_op haq800 hsq800 rfl (opT_app (E := 34) (R := rSlice 3 rInt) (s := v91) (u := v129) e112 Try.underlying23 tz34 rfl (by decide) rfl (by decide) rfl rfl rfl) (perm_sel [2, 0, 1, 3, 4, 5] (m := 6) rfl rfl) rfl ?_
                  rintro v130 aq801 wq801 - haq801 (hsq801 : St I w0 wq801 [Ch.own (rSlice 34 (rSlice 3 rInt)) [v130] z40, Ch.blk g7 [v122] 34, Ch.blk g1 [.int .i64 p0.1, va0, va1] 27, Ch.own (rSlice 3 rInt) [v92] s37.2.1, F])
                  clear haq800 hsq800 aq800 wq800
                  refine seq_op0 haq801 hsq801 (opT_assign (v := v130) rfl rfl) rfl rfl ?_
                  rintro u aq802 wq802 hf haq802 hsq802
                  obtain rfl := Eq.symm hf
                  clear haq801 hsq801 aq801 wq801
                  refine wpList_nil ?_
                  replace haq802 := haq802.pick' (L' := [(1, va2), (2, .pointer (some ⟨g1, 0, none⟩)), (6, v130), (7, v92), (13, .int .i64 (s37.1.length : Int)), (16, va2), (17, .int .i64 (p1.length : Int)), (18, .int .i64 s37.2.2)]) ⟨rfl, rfl, rfl, rfl, rfl, rfl, rfl, rfl, trivial⟩
                  refine nrm ?_
                  obtain rfl := Option.some.inj hm
                  exact ⟨v130, haq802.pick' ⟨rfl, rfl, rfl, rfl, rfl, rfl, rfl, rfl, trivial⟩, St.sel hsq802 5 [0, 2, 3, 4] rfl rfl⟩
              · rintro aq803 wq803 ⟨v128, haq803, hsq803⟩
                refine wp_region_lit ?_
                refine seq_op0 haq803 hsq803 (opT_move (v := v92) rfl rfl) rfl rfl ?_
                rintro u aq804 wq804 hf haq804 hsq804
                obtain rfl := Eq.symm hf
                clear haq803 hsq803 aq803 wq803
                refine seq_op0 haq804 hsq804 (opT_move (v := .int .i64 s55.2) rfl rfl) rfl rfl ?_
                rintro u aq805 wq805 hf haq805 hsq805
                obtain rfl := Eq.symm hf
                clear haq804 hsq804 aq804 wq804
                refine seq_op haq805 hsq805 rfl (opT_lit_cpy (E := 3) (R := rInt) (S := rInt) [(.int .i64 s55.2, [.int .i64 s55.2])] [s55.2] cpy_int (rd_all ⟨rfl, trivial⟩) Try.underlying34 tz3 (by decide) rfl (by decide) (by decide) rfl rfl rfl rfl (us_all ⟨⟨rfl, rfl⟩, trivial⟩)) (List.Perm.refl _) rfl ?_
                rintro v131 aq806 wq806 - haq806 (hsq806 : St I w0 wq806 [Ch.own (rSlice 3 rInt) [v131] ([s55.2]), Ch.own (rSlice 34 (rSlice 3 rInt)) [v128] s55.1, Ch.blk g1 [.int .i64 p0.1, va0, va1] 27, Ch.own (rSlice 3 rInt) [v92] s37.2.1, F])
                clear haq805 hsq805 aq805 wq805
                obtain ⟨z41, e113, hm⟩ := bind_some hm
                refine seq_op haq806 hsq806 rfl (opT_app (E := 3) (R := rInt) (s := v92) (u := v131) e113 Try.underlying34 tz3 rfl (by decide) rfl (by decide) rfl rfl rfl) (perm_sel [3, 0, 1, 2, 4] (m := 5) rfl rfl) rfl ?_
                rintro v132 aq807 wq807 - haq807 (hsq807 : St I w0 wq807 [Ch.own (rSlice 3 rInt) [v132] z41, Ch.own (rSlice 34 (rSlice 3 rInt)) [v128] s55.1, Ch.blk g1 [.int .i64 p0.1, va0, va1] 27, F])
                clear haq806 hsq806 aq806 wq806
                refine seq_op0 haq807 hsq807 (opT_assign (v := v132) rfl rfl) rfl rfl ?_
                rintro u aq808 wq808 hf haq808 hsq808
                obtain rfl := Eq.symm hf
                clear haq807 hsq807 aq807 wq807
                refine wpList_nil ?_
                replace haq808 := haq808.pick' (L' := [(1, va2), (2, .pointer (some ⟨g1, 0, none⟩)), (6, v128), (7, v132), (16, va2), (17, .int .i64 (p1.length : Int)), (18, .int .i64 s37.2.2)]) ⟨rfl, rfl, rfl, rfl, rfl, rfl, rfl, trivial⟩
                refine nrmB ?_
                refine nrm ?_
                obtain rfl := Option.some.inj hm
                exact ⟨v128, v132, haq808.pick' ⟨rfl, rfl, rfl, rfl, rfl, rfl, rfl, trivial⟩, St.sel hsq808 4 [1, 0, 2, 3] rfl rfl⟩
          · replace hm := ifTe hb64 hm
            refine cnd_true (b := decide (x56 < 0)) haq687 rfl rfl hb64 ?_
            refine wp_seq ?_
            refine wp_region_lit ?_
            refine seq_op0 haq687 hsq687 (opT_move (v := v92) rfl rfl) rfl rfl ?_
            rintro u aq809 wq809 hf haq809 hsq809
            obtain rfl := Eq.symm hf
            clear haq687 hsq687 aq687 wq687
            refine seq_op haq809 hsq809 rfl (opT_lit_cpy (E := 3) (R := rInt) (S := rInt) [(.int .i64 (-1), [.int .i64 (-1)])] [-1] cpy_int (rd_all ⟨rfl, trivial⟩) Try.underlying34 tz3 (by decide) rfl (by decide) (by decide) rfl rfl rfl rfl (us_all ⟨⟨rfl, rfl⟩, trivial⟩)) (List.Perm.refl _) rfl ?_
            rintro v133 aq810 wq810 - haq810 (hsq810 : St I w0 wq810 [Ch.own (rSlice 3 rInt) [v133] ([-1]), Ch.own (rSlice 34 (rSlice 3 rInt)) [v91] s37.1, Ch.own (rSlice 3 rInt) [v92] s37.2.1, Ch.blk g1 [.int .i64 p0.1, va0, va1] 27, F])
            clear haq809 hsq809 aq809 wq809
            obtain ⟨z42, e114, hm⟩ := bind_some hm
            refine seq_op haq810 hsq810 rfl (opT_app (E := 3) (R := rInt) (s := v92) (u := v133) e114 Try.underlying34 tz3 rfl (by decide) rfl (by decide) rfl rfl rfl) (perm_sel [2, 0, 1, 3, 4] (m := 5) rfl rfl) rfl ?_
            rintro v134 aq811 wq811 - haq811 (hsq811 : St I w0 wq811 [Ch.own (rSlice 3 rInt) [v134] z42, Ch.own (rSlice 34 (rSlice 3 rInt)) [v91] s37.1, Ch.blk g1 [.int .i64 p0.1, va0, va1] 27, F])
            clear haq810 hsq810 aq810 wq810
            refine seq_op0 haq811 hsq811 (opT_assign (v := v134) rfl rfl) rfl rfl ?_
            rintro u aq812 wq812 hf haq812 hsq812
            obtain rfl := Eq.symm hf
            clear haq811 hsq811 aq811 wq811
            refine wpList_nil ?_
            replace haq812 := haq812.pick' (L' := [(1, va2), (2, .pointer (some ⟨g1, 0, none⟩)), (6, v91), (7, v134), (16, va2), (17, .int .i64 (p1.length : Int)), (18, .int .i64 s37.2.2)]) ⟨rfl, rfl, rfl, rfl, rfl, rfl, rfl, trivial⟩
            refine nrm ?_
            refine wp_exit ?_
            refine thenX ?_
            refine ex_in ?_
            refine nrm ?_
            obtain rfl := Option.some.inj hm
            exact ⟨v91, v134, haq812.pick' ⟨rfl, rfl, rfl, rfl, rfl, rfl, rfl, trivial⟩, St.sel hsq812 4 [1, 0, 2, 3] rfl rfl⟩
        · rintro aq813 wq813 ⟨v113, v114, haq813, hsq813⟩
          refine wp_region_lit ?_
          refine seq_op0 haq813 hsq813 (opT_add (m := s37.2.2) (n := 1) rfl rfl rfl) rfl rfl ?_
          rintro u aq814 wq814 hf haq814 hsq814
          obtain rfl := Eq.symm hf
          clear haq813 hsq813 aq813 wq813
          refine seq_op0 haq814 hsq814 (opT_move (v := .int .i64 (IntKind.i64.wrap (s37.2.2 + 1))) rfl rfl) rfl rfl ?_
          rintro u aq815 wq815 hf haq815 hsq815
          obtain rfl := Eq.symm hf
          clear haq814 hsq814 aq814 wq814
          refine wpList_nil ?_
          replace haq815 := haq815.pick' (L' := [(1, va2), (2, .pointer (some ⟨g1, 0, none⟩)), (6, v113), (7, v114), (16, va2), (17, .int .i64 (p1.length : Int)), (18, .int .i64 (IntKind.i64.wrap (s37.2.2 + 1)))]) ⟨rfl, rfl, rfl, rfl, rfl, rfl, rfl, trivial⟩
          refine nrm ?_
          exact ⟨_, (Option.some.inj hm).symm, ⟨v113, v114, haq815.pick' ⟨rfl, rfl, rfl, rfl, rfl, rfl, rfl, trivial⟩, St.sel hsq815 4 [0, 1, 2, 3] rfl rfl⟩⟩
  · rintro aq816 wq816 ⟨s38, ho34, v89, v90, haq816, hsq816⟩
    replace hm := loopOut ho34 hc23
    clear ho34 hc23 hl5
    refine nrm ?_
    refine wp_seq ?_
    refine wp_region_lit ?_
    refine seq_op0 haq816 hsq816 (opT_move (v := v90) rfl rfl) rfl rfl ?_
    rintro u aq817 wq817 hf haq817 hsq817
    obtain rfl := Eq.symm hf
    clear haq816 hsq816 aq816 wq816
    refine seq_op0 haq817 hsq817 (opT_move (v := v89) rfl rfl) rfl rfl ?_
    rintro u aq818 wq818 hf haq818 hsq818
    obtain rfl := Eq.symm hf
    clear haq817 hsq817 aq817 wq817
    refine seq_op0 haq818 hsq818 (opT_len_hd (v := v89) (n := s38.1.length) (St.hd hsq818 0 rfl).1 Try.underlying23 rfl rfl) rfl rfl ?_
    rintro u aq819 wq819 hf haq819 hsq819
    obtain rfl := Eq.symm hf
    clear haq818 hsq818 aq818 wq818
    refine seq_op0 haq819 hsq819 (opT_assign (v := v90) rfl rfl) rfl rfl ?_
    rintro u aq820 wq820 hf haq820 hsq820
    obtain rfl := Eq.symm hf
    clear haq819 hsq819 aq819 wq819
    refine seq_op0 haq820 hsq820 (opT_assign (v := .int .i64 (s38.1.length : Int)) rfl rfl) rfl rfl ?_
    rintro u aq821 wq821 hf haq821 hsq821
    obtain rfl := Eq.symm hf
    clear haq820 hsq820 aq820 wq820
    refine wpList_nil ?_
    replace haq821 := haq821.pick' (L' := [(4, v90), (5, .int .i64 (s38.1.length : Int))]) ⟨rfl, rfl, trivial⟩
    refine nrm ?_
    refine wp_ret ?_
    obtain rfl := Option.some.inj hm
    exact ret_2 haq821 rfl (res_tmp haq821 rfl) (res_tmp haq821 rfl) ⟨_, rfl, ⟨_, rfl⟩, _, Hp.le.rfl, St.sel (hsq821) 3 [1, 2] rfl rfl⟩
end Go.Proofs.Ytcihbmdppgpmjaa.D
