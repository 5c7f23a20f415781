/- Printed by dec.py: models of functions and the walks that show them. -/
import Derived.Test.YtcihbmdppgpmjaaUw0_3
import Derived.Test.YtcihbmdppgpmjaaUw1_1
set_option linter.unusedVariables false
set_option linter.unusedSimpArgs false
set_option linter.unnecessarySimpa false
set_option maxRecDepth 100000
namespace Go.Proofs.Ytcihbmdppgpmjaa.D
open Go.RowKit
set_option maxHeartbeats 8000000 in
theorem c_i_Automaton_refine (p0 : Int × (List Bool) × (List (List Int))) (p1 : List Int) (r : (List Int) × Int) (hm : m_i_Automaton_refine p0 p1 = some r) {I : Hp} {w0 : World} (va0 : Value) (va1 : Value) (va2 : Value) (ra0 : (rSlice 4 rBool).rd I [va0] p0.2.1) (ra1 : (rSlice 34 (rSlice 3 rInt)).rd I [va1] p0.2.2) (ra2 : (rSlice 3 rInt).rd I [va2] p1) : Con Try.prog 151 #[.agg #[.int .i64 p0.1, va0, va1], va2] I w0 [] (fun v => ∃ h0 : Value, v = .tuple #[h0, .int .i64 r.2]) (fun v => [Ch.own (rSlice 3 rInt) [vg v [0]] r.1]) := by
  refine con_of_wp (n := 70) [(0, .agg #[.int .i64 p0.1, va0, va1]), (1, va2)] Try.func151 rfl rfl (Nat.le_of_ble_eq_true rfl) (args_all ⟨rfl, rfl, trivial⟩) (fun F w a ha hs => ?_) (fun v => ⟨dp_own (dp_slice dp_int), trivial⟩)
  unfold m_i_Automaton_refine at hm
  refine wp_seq ?_
  refine wp_region_lit ?_
  refine seq_op ha hs rfl (opT_box (u := .agg #[.int .i64 p0.1, va0, va1]) (l := [.int .i64 p0.1, va0, va1]) rfl rfl rfl) (List.Perm.refl _) rfl ?_
  rintro _ a1 w1 ⟨g1, rfl⟩ A1 (S1 : St I w0 w1 [Ch.blk g1 [.int .i64 p0.1, va0, va1] 27, F])
  clear ha hs a w
  refine sv A1 S1 (opT_assign (v := .slice none 0 0) rfl rfl) rfl rfl ?_
  clear A1 S1 a1 w1;intro a2 w2 A2 S2
  refine sv A2 S2 (opT_assign (v := .int .i64 0) rfl rfl) rfl rfl ?_
  clear A2 S2 a2 w2;intro a3 w3 A3 S3
  refine wpList_nil ?_
  replace A3 := A3.pick' (L' := [(1, va2), (2, .pointer (some ⟨g1, 0, none⟩))]) ⟨rfl, rfl, trivial⟩
  refine nrm ?_
  refine wp_seq ?_
  refine wp_region_lit ?_
  refine seq_op A3 S3 rfl (opT_lit0 (E := 34) (R := rSlice 3 rInt) Try.underlying23 ti34 rfl) (List.Perm.refl _) rfl ?_
  rintro v1 a4 w4 - A4 (S4 : St I w0 w4 [Ch.own (rSlice 34 (rSlice 3 rInt)) [v1] ([] : List (List Int)), Ch.blk g1 [.int .i64 p0.1, va0, va1] 27, F])
  clear A3 S3 a3 w3
  refine sv A4 S4 (opT_assign (v := v1) rfl rfl) rfl rfl ?_
  clear A4 S4 a4 w4;intro a5 w5 A5 S5
  refine wpList_nil ?_
  replace A5 := A5.pick' (L' := [(1, va2), (2, .pointer (some ⟨g1, 0, none⟩)), (6, v1)]) ⟨rfl, rfl, rfl, trivial⟩
  refine nrm ?_
  refine wp_seq ?_
  refine wp_region_lit ?_
  refine seq_op A5 S5 rfl (opT_lit0 (E := 3) (R := rInt) Try.underlying34 ti3 rfl) (List.Perm.refl _) rfl ?_
  rintro v2 a6 w6 - A6 (S6 : St I w0 w6 [Ch.own (rSlice 3 rInt) [v2] ([] : List Int), Ch.own (rSlice 34 (rSlice 3 rInt)) [v1] ([] : List (List Int)), Ch.blk g1 [.int .i64 p0.1, va0, va1] 27, F])
  clear A5 S5 a5 w5
  refine sv A6 S6 (opT_assign (v := v2) rfl rfl) rfl rfl ?_
  clear A6 S6 a6 w6;intro a7 w7 A7 S7
  refine wpList_nil ?_
  replace A7 := A7.pick' (L' := [(1, va2), (2, .pointer (some ⟨g1, 0, none⟩)), (6, v1), (7, v2)]) ⟨rfl, rfl, rfl, rfl, trivial⟩
  refine nrm ?_
  refine wp_seq ?_
  refine wp_seq ?_
  refine wp_region_lit ?_
  refine sv A7 S7 (opT_move (v := va2) rfl rfl) rfl rfl ?_
  clear A7 S7 a7 w7;intro a8 w8 A8 S8
  refine sv A8 S8 (opT_len_hd (v := va2) (n := p1.length) (Hd.of_rd ra2) Try.underlying34 rfl rfl) rfl rfl ?_
  clear A8 S8 a8 w8;intro a9 w9 A9 S9
  refine sv A9 S9 (opT_move (v := .int .i64 0) rfl rfl) rfl rfl ?_
  clear A9 S9 a9 w9;intro a10 w10 A10 S10
  refine wpList_nil ?_
  replace A10 := A10.pick' (L' := [(1, va2), (2, .pointer (some ⟨g1, 0, none⟩)), (6, v1), (7, v2), (16, va2), (17, .int .i64 (p1.length : Int)), (18, .int .i64 0)]) ⟨rfl, rfl, rfl, rfl, rfl, rfl, rfl, trivial⟩
  refine nrm ?_
  obtain ⟨o27, hl5, hc23⟩ := bindL_some hm
  refine wp_cut (fun a w => ∃ s38 : (List (List Int)) × (List Int) × Int, o27 = .brk s38 ∧ ∃ v89 v90 : Value, Agr 70 a [(6, v89), (7, v90)] ∧ St I w0 w [Ch.own (rSlice 34 (rSlice 3 rInt)) [v89] s38.1, Ch.own (rSlice 3 rInt) [v90] s38.2.1, F]) ?_ ?_
  · refine wp_block (wp_loopM (R := (List Int) × Int) (S := (List (List Int)) × (List Int) × Int) (fun s37 a w => ∃ v91 v92 : Value, Agr 70 a [(1, va2), (2, .pointer (some ⟨g1, 0, none⟩)), (6, v91), (7, v92), (16, va2), (17, .int .i64 (p1.length : Int)), (18, .int .i64 s37.2.2)] ∧ St I w0 w [Ch.own (rSlice 34 (rSlice 3 rInt)) [v91] s37.1, Ch.own (rSlice 3 rInt) [v92] s37.2.1, Ch.blk g1 [.int .i64 p0.1, va0, va1] 27, F]) hl5 ?_ ?_)
    · exact ⟨v1, v2, A10.pick' ⟨rfl, rfl, rfl, rfl, rfl, rfl, rfl, trivial⟩, St.sel S10 4 [1, 0, 2, 3] rfl rfl⟩
    · rintro s37 o28 hm hf5 a547 w547 ⟨v91, v92, A547, S547⟩
      unfold m_i_Automaton_refine_l0 at hm
      refine wp_seq ?_
      refine wp_region_lit ?_
      refine sv A547 S547 (opT_cmp (k := .i64) (m := s37.2.2) (n := (p1.length : Int)) (c := decide (s37.2.2 < (p1.length : Int))) rfl rfl rfl rfl rfl) rfl rfl ?_
      clear A547 S547 a547 w547;intro a548 w548 A548 S548
      refine wpList_nil ?_
      replace A548 := A548.pick' (L' := [(1, va2), (2, .pointer (some ⟨g1, 0, none⟩)), (6, v91), (7, v92), (16, va2), (17, .int .i64 (p1.length : Int)), (18, .int .i64 s37.2.2), (19, .bool (decide (s37.2.2 < (p1.length : Int))))]) ⟨rfl, rfl, rfl, rfl, rfl, rfl, rfl, rfl, trivial⟩
      refine nrm ?_
      refine wp_seq ?_
      rcases two (decide (s37.2.2 < (p1.length : Int))) with hb51 | hb51
      · replace hm := ifFe hb51 hm
        refine cnd_false (b := decide (s37.2.2 < (p1.length : Int))) A548 rfl rfl hb51 ?_
        refine wp_exit ?_
        refine thenX ?_
        refine thenX ?_
        refine ex_in ?_
        refine nrm ?_
        exact ⟨_, loopBrk hm hf5, ⟨v91, v92, A548.pick' ⟨rfl, rfl, trivial⟩, St.sel S548 4 [0, 1, 3] rfl rfl⟩⟩
      · replace hm := ifTe hb51 hm
        refine cnd_true (b := decide (s37.2.2 < (p1.length : Int))) A548 rfl rfl hb51 ?_
        refine wp_skip ?_
        refine nrm ?_
        obtain ⟨s47, hj23, hm⟩ := bind_some hm
        refine wp_seq_cut (fun a w => ∃ v113 v114 : Value, Agr 70 a [(1, va2), (2, .pointer (some ⟨g1, 0, none⟩)), (6, v113), (7, v114), (16, va2), (17, .int .i64 (p1.length : Int)), (18, .int .i64 s37.2.2)] ∧ St I w0 w [Ch.own (rSlice 34 (rSlice 3 rInt)) [v113] s47.1, Ch.own (rSlice 3 rInt) [v114] s47.2, Ch.blk g1 [.int .i64 p0.1, va0, va1] 27, F]) ?_ ?_
        · replace hm := hj23
          refine wp_block ?_
          refine wp_seq ?_
          refine wp_region_lit ?_
          refine sv A548 S548 (opT_move (v := .int .i64 s37.2.2) rfl rfl) rfl rfl ?_
          clear A548 S548 a548 w548;intro a681 w681 A681 S681
          obtain ⟨x56, e96, hm⟩ := bind_some hm
          refine sv A681 S681 (opT_index_hd (xs := p1) (i := s37.2.2) (n := 1) (Hd.of_rd ra2) Try.underlying34 ti3 rfl rfl rfl (getI_in e96)) rfl rfl ?_
          clear A681 S681 a681 w681;intro a682 w682 A682 S682
          refine seq_op0 A682 S682 (opT_load_el (S := rInt) (xs := p1) (a := x56) (i := s37.2.2) (k := 1) (off := 0) (f := fun (x : Int) => x) ra2 e96 Fld.self ti3 rfl rfl rfl rfl rfl) rfl rfl ?_
          rintro u a683 w683 hf A683 S683
          obtain rfl := lds_one hf
          clear A682 S682 a682 w682
          refine sv A683 S683 (opT_assign (v := .int .i64 s37.2.2) rfl rfl) rfl rfl ?_
          clear A683 S683 a683 w683;intro a684 w684 A684 S684
          refine sv A684 S684 (opT_assign (v := .int .i64 x56) rfl rfl) rfl rfl ?_
          clear A684 S684 a684 w684;intro a685 w685 A685 S685
          refine wpList_nil ?_
          replace A685 := A685.pick' (L' := [(1, va2), (2, .pointer (some ⟨g1, 0, none⟩)), (6, v91), (7, v92), (8, .int .i64 s37.2.2), (9, .int .i64 x56), (16, va2), (17, .int .i64 (p1.length : Int)), (18, .int .i64 s37.2.2)]) ⟨rfl, rfl, rfl, rfl, rfl, rfl, rfl, rfl, rfl, trivial⟩
          refine nrm ?_
          refine wp_seq ?_
          refine wp_seq ?_
          refine wp_region_lit ?_
          refine sv A685 S685 (opT_move (v := .int .i64 x56) rfl rfl) rfl rfl ?_
          clear A685 S685 a685 w685;intro a686 w686 A686 S686
          refine sv A686 S686 (opT_cmp (k := .i64) (m := x56) (n := 0) (c := decide (x56 < 0)) rfl rfl rfl rfl rfl) rfl rfl ?_
          clear A686 S686 a686 w686;intro a687 w687 A687 S687
          refine wpList_nil ?_
          replace A687 := A687.pick' (L' := [(1, va2), (2, .pointer (some ⟨g1, 0, none⟩)), (6, v91), (7, v92), (8, .int .i64 s37.2.2), (9, .int .i64 x56), (16, va2), (17, .int .i64 (p1.length : Int)), (18, .int .i64 s37.2.2), (24, .bool (decide (x56 < 0)))]) ⟨rfl, rfl, rfl, rfl, rfl, rfl, rfl, rfl, rfl, rfl, trivial⟩
          refine nrm ?_
          rcases two (decide (x56 < 0)) with hb64 | hb64
          · replace hm := ifFe hb64 hm
            refine cnd_false (b := decide (x56 < 0)) A687 rfl rfl hb64 ?_
            refine wp_skip ?_
            refine nrm ?_
            refine wp_seq ?_
            refine wp_region_lit ?_
            refine sv A687 S687 (opT_move (v := .int .i64 x56) rfl rfl) rfl rfl ?_
            clear A687 S687 a687 w687;intro a688 w688 A688 S688
            refine seq_op A688 S688 rfl (opT_lit_cpy (E := 3) (R := rInt) (S := rInt) [(.int .i64 x56, [.int .i64 x56])] [x56] cpy_int (rd_all ⟨rfl, trivial⟩) Try.underlying34 tz3 (by decide) rfl (by decide) (by decide) rfl rfl rfl rfl (us_all ⟨⟨rfl, rfl⟩, trivial⟩)) (List.Perm.refl _) rfl ?_
            rintro v115 a689 w689 - A689 (S689 : St I w0 w689 [Ch.own (rSlice 3 rInt) [v115] ([x56]), Ch.own (rSlice 34 (rSlice 3 rInt)) [v91] s37.1, Ch.own (rSlice 3 rInt) [v92] s37.2.1, Ch.blk g1 [.int .i64 p0.1, va0, va1] 27, F])
            clear A688 S688 a688 w688
            refine seq_op A689 S689 rfl (opT_alloc (l := [.slice none 0 0]) tz34 rfl rfl) (List.Perm.refl _) rfl ?_
            rintro _ a690 w690 ⟨g7, rfl⟩ A690 (S690 : St I w0 w690 [Ch.blk g7 [.slice none 0 0] 34, Ch.own (rSlice 3 rInt) [v115] ([x56]), Ch.own (rSlice 34 (rSlice 3 rInt)) [v91] s37.1, Ch.own (rSlice 3 rInt) [v92] s37.2.1, Ch.blk g1 [.int .i64 p0.1, va0, va1] 27, F])
            clear A689 S689 a689 w689
            refine seq_op A690 S690 rfl (opT_store_blk (g := g7) (off := 0) (l := [.slice none 0 0]) (d := [v115]) (E := 34) (u := v115) ti34 rfl rfl rfl (Hd.cells (St.hd S690 1 rfl).1) rfl (allC (Hd.one (St.hd S690 1 rfl).1) allN) (Nat.le_of_ble_eq_true rfl)) (perm_front (i := 0) rfl) rfl ?_
            rintro _ a691 w691 - A691 (S691 : St I w0 w691 [Ch.blk g7 [v115] 34, Ch.own (rSlice 3 rInt) [v115] ([x56]), Ch.own (rSlice 34 (rSlice 3 rInt)) [v91] s37.1, Ch.own (rSlice 3 rInt) [v92] s37.2.1, Ch.blk g1 [.int .i64 p0.1, va0, va1] 27, F])
            clear A690 S690 a690 w690
            refine wpList_nil ?_
            replace A691 := A691.pick' (L' := [(1, va2), (2, .pointer (some ⟨g1, 0, none⟩)), (6, v91), (7, v92), (8, .int .i64 s37.2.2), (10, .pointer (some ⟨g7, 0, none⟩)), (16, va2), (17, .int .i64 (p1.length : Int)), (18, .int .i64 s37.2.2)]) ⟨rfl, rfl, rfl, rfl, rfl, rfl, rfl, rfl, rfl, trivial⟩
            refine nrm ?_
            refine wp_seq ?_
            refine wp_seq ?_
            refine wp_region_lit ?_
            refine sv A691 S691 (opT_field_addr (g := g1) (b := 0) tf27_2 rfl rfl) rfl rfl ?_
            clear A691 S691 a691 w691;intro a692 w692 A692 S692
            refine seq_op A692 S692 rfl (opT_load_blk (g := g1) (off := 2) (E := 27) (l := [.int .i64 p0.1, va0, va1]) (d := [va1]) (u := va1) ti23 rfl rfl rfl rfl rfl rfl) (perm_front (i := 4) rfl) rfl ?_
            rintro u a693 w693 hf A693 (S693 : St I w0 w693 [Ch.blk g1 [.int .i64 p0.1, va0, va1] 27, Ch.blk g7 [v115] 34, Ch.own (rSlice 3 rInt) [v115] ([x56]), Ch.own (rSlice 34 (rSlice 3 rInt)) [v91] s37.1, Ch.own (rSlice 3 rInt) [v92] s37.2.1, F])
            obtain rfl := Eq.symm hf
            clear A692 S692 a692 w692
            refine sv A693 S693 (opT_move (v := .int .i64 s37.2.2) rfl rfl) rfl rfl ?_
            clear A693 S693 a693 w693;intro a694 w694 A694 S694
            obtain ⟨x57, e97, hm⟩ := bind_some hm
            refine sv A694 S694 (opT_index_hd (xs := p0.2.2) (i := s37.2.2) (n := 1) (Hd.of_rd ra1) Try.underlying23 ti34 rfl rfl rfl (getI_in e97)) rfl rfl ?_
            clear A694 S694 a694 w694;intro a695 w695 A695 S695
            refine seq_op0 A695 S695 (opT_load_el (S := rSlice 3 rInt) (xs := p0.2.2) (a := x57) (i := s37.2.2) (k := 1) (off := 0) (f := fun (x : List Int) => x) ra1 e97 Fld.self ti34 rfl rfl rfl rfl rfl) rfl rfl ?_
            rintro v116 a696 w696 hf A696 S696
            have r11 := lds_sl hf
            clear hf
            clear A695 S695 a695 w695
            refine sv A696 S696 (opT_len_hd (v := v116) (n := x57.length) (Hd.of_rd r11) Try.underlying34 rfl rfl) rfl rfl ?_
            clear A696 S696 a696 w696;intro a697 w697 A697 S697
            refine sv A697 S697 (opT_move (v := .int .i64 0) rfl rfl) rfl rfl ?_
            clear A697 S697 a697 w697;intro a698 w698 A698 S698
            refine wpList_nil ?_
            replace A698 := A698.pick' (L' := [(1, va2), (2, .pointer (some ⟨g1, 0, none⟩)), (6, v91), (7, v92), (10, .pointer (some ⟨g7, 0, none⟩)), (16, va2), (17, .int .i64 (p1.length : Int)), (18, .int .i64 s37.2.2), (34, v116), (35, .int .i64 (x57.length : Int)), (36, .int .i64 0)]) ⟨rfl, rfl, rfl, rfl, rfl, rfl, rfl, rfl, rfl, rfl, rfl, trivial⟩
            refine nrm ?_
            obtain ⟨o38, hl7, hc32⟩ := bindL_some hm
            refine wp_cut (fun a w => ∃ s53 : Int × (List Int), o38 = .brk s53 ∧ ∃ v122 : Value, Agr 70 a [(1, va2), (2, .pointer (some ⟨g1, 0, none⟩)), (6, v91), (7, v92), (10, .pointer (some ⟨g7, 0, none⟩)), (16, va2), (17, .int .i64 (p1.length : Int)), (18, .int .i64 s37.2.2)] ∧ St I w0 w [Ch.own (rSlice 3 rInt) [v122] s53.2, Ch.blk g1 [.int .i64 p0.1, va0, va1] 27, Ch.own (rSlice 34 (rSlice 3 rInt)) [v91] s37.1, Ch.own (rSlice 3 rInt) [v92] s37.2.1, Ch.blk g7 [v122] 34, F]) ?_ ?_
            · refine wp_block (wp_loopM (R := (List Int) × Int) (S := Int × (List Int)) (fun s52 a w => ∃ v123 : Value, Agr 70 a [(1, va2), (2, .pointer (some ⟨g1, 0, none⟩)), (6, v91), (7, v92), (10, .pointer (some ⟨g7, 0, none⟩)), (16, va2), (17, .int .i64 (p1.length : Int)), (18, .int .i64 s37.2.2), (34, v116), (35, .int .i64 (x57.length : Int)), (36, .int .i64 s52.1)] ∧ St I w0 w [Ch.own (rSlice 3 rInt) [v123] s52.2, Ch.blk g1 [.int .i64 p0.1, va0, va1] 27, Ch.own (rSlice 34 (rSlice 3 rInt)) [v91] s37.1, Ch.own (rSlice 3 rInt) [v92] s37.2.1, Ch.blk g7 [v123] 34, F]) hl7 ?_ ?_)
              · exact ⟨v115, A698.pick' ⟨rfl, rfl, rfl, rfl, rfl, rfl, rfl, rfl, rfl, rfl, rfl, trivial⟩, St.sel S698 6 [2, 0, 3, 4, 1, 5] rfl rfl⟩
              · rintro s52 o39 hm hf7 a751 w751 ⟨v123, A751, S751⟩
                unfold m_i_Automaton_refine_l1 at hm
                refine wp_seq ?_
                refine wp_region_lit ?_
                refine sv A751 S751 (opT_cmp (k := .i64) (m := s52.1) (n := (x57.length : Int)) (c := decide (s52.1 < (x57.length : Int))) rfl rfl rfl rfl rfl) rfl rfl ?_
                clear A751 S751 a751 w751;intro a752 w752 A752 S752
                refine wpList_nil ?_
                replace A752 := A752.pick' (L' := [(1, va2), (2, .pointer (some ⟨g1, 0, none⟩)), (6, v91), (7, v92), (10, .pointer (some ⟨g7, 0, none⟩)), (16, va2), (17, .int .i64 (p1.length : Int)), (18, .int .i64 s37.2.2), (34, v116), (35, .int .i64 (x57.length : Int)), (36, .int .i64 s52.1), (37, .bool (decide (s52.1 < (x57.length : Int))))]) ⟨rfl, rfl, rfl, rfl, rfl, rfl, rfl, rfl, rfl, rfl, rfl, rfl, trivial⟩
                refine nrm ?_
                refine wp_seq ?_
                rcases two (decide (s52.1 < (x57.length : Int))) with hb71 | hb71
                · replace hm := ifFe hb71 hm
                  refine cnd_false (b := decide (s52.1 < (x57.length : Int))) A752 rfl rfl hb71 ?_
                  refine wp_exit ?_
                  refine thenX ?_
                  refine thenX ?_
                  refine ex_in ?_
                  refine nrm ?_
                  exact ⟨_, loopBrk hm hf7, ⟨v123, A752.pick' ⟨rfl, rfl, rfl, rfl, rfl, rfl, rfl, rfl, trivial⟩, St.sel S752 6 [0, 1, 2, 3, 4, 5] rfl rfl⟩⟩
                · replace hm := ifTe hb71 hm
                  refine cnd_true (b := decide (s52.1 < (x57.length : Int))) A752 rfl rfl hb71 ?_
                  refine wp_skip ?_
                  refine nrm ?_
                  refine wp_seq ?_
                  refine wp_block ?_
                  refine wp_seq ?_
                  refine wp_region_lit ?_
                  obtain ⟨x64, e106, hm⟩ := bind_some hm
                  refine sv A752 S752 (opT_index_hd (xs := x57) (i := s52.1) (n := 1) (Hd.of_rd r11) Try.underlying34 ti3 rfl rfl rfl (getI_in e106)) rfl rfl ?_
                  clear A752 S752 a752 w752;intro a753 w753 A753 S753
                  refine seq_op0 A753 S753 (opT_load_el (S := rInt) (xs := x57) (a := x64) (i := s52.1) (k := 1) (off := 0) (f := fun (x : Int) => x) r11 e106 Fld.self ti3 rfl rfl rfl rfl rfl) rfl rfl ?_
                  rintro u a754 w754 hf A754 S754
                  obtain rfl := lds_one hf
                  clear A753 S753 a753 w753
                  refine sv A754 S754 (opT_assign (v := .int .i64 x64) rfl rfl) rfl rfl ?_
                  clear A754 S754 a754 w754;intro a755 w755 A755 S755
                  refine wpList_nil ?_
                  replace A755 := A755.pick' (L' := [(1, va2), (2, .pointer (some ⟨g1, 0, none⟩)), (6, v91), (7, v92), (10, .pointer (some ⟨g7, 0, none⟩)), (12, .int .i64 x64), (16, va2), (17, .int .i64 (p1.length : Int)), (18, .int .i64 s37.2.2), (34, v116), (35, .int .i64 (x57.length : Int)), (36, .int .i64 s52.1)]) ⟨rfl, rfl, rfl, rfl, rfl, rfl, rfl, rfl, rfl, rfl, rfl, rfl, trivial⟩
                  refine nrm ?_
                  obtain ⟨s54, hj26, hm⟩ := bind_some hm
                  refine wp_seq_cut (fun a w => Agr 70 a [(1, va2), (2, .pointer (some ⟨g1, 0, none⟩)), (6, v91), (7, v92), (10, .pointer (some ⟨g7, 0, none⟩)), (12, .int .i64 s54), (16, va2), (17, .int .i64 (p1.length : Int)), (18, .int .i64 s37.2.2), (34, v116), (35, .int .i64 (x57.length : Int)), (36, .int .i64 s52.1)] ∧ St I w0 w [Ch.blk g1 [.int .i64 p0.1, va0, va1] 27, Ch.own (rSlice 34 (rSlice 3 rInt)) [v91] s37.1, Ch.own (rSlice 3 rInt) [v92] s37.2.1, Ch.blk g7 [v123] 34, Ch.own (rSlice 3 rInt) [v123] s52.2, F]) ?_ ?_
                  · replace hm := hj26
                    refine wp_seq ?_
                    refine wp_region_lit ?_
                    refine sv A755 S755 (opT_move (v := .int .i64 x64) rfl rfl) rfl rfl ?_
                    clear A755 S755 a755 w755;intro a763 w763 A763 S763
                    refine sv A763 S763 (opT_cmp (k := .i64) (m := x64) (n := 0) (c := decide (x64 ≥ 0)) rfl rfl rfl rfl rfl) rfl rfl ?_
                    clear A763 S763 a763 w763;intro a764 w764 A764 S764
                    refine wpList_nil ?_
                    replace A764 := A764.pick' (L' := [(1, va2), (2, .pointer (some ⟨g1, 0, none⟩)), (6, v91), (7, v92), (10, .pointer (some ⟨g7, 0, none⟩)), (12, .int .i64 x64), (16, va2), (17, .int .i64 (p1.length : Int)), (18, .int .i64 s37.2.2), (34, v116), (35, .int .i64 (x57.length : Int)), (36, .int .i64 s52.1), (41, .bool (decide (x64 ≥ 0)))]) ⟨rfl, rfl, rfl, rfl, rfl, rfl, rfl, rfl, rfl, rfl, rfl, rfl, rfl, trivial⟩
                    refine nrm ?_
                    rcases two (decide (x64 ≥ 0)) with hb73 | hb73
                    · replace hm := ifFe hb73 hm
                      refine cnd_false (b := decide (x64 ≥ 0)) A764 rfl rfl hb73 ?_
                      refine wp_skip ?_
                      refine nrm ?_
                      obtain rfl := Option.some.inj hm
                      exact ⟨A764.pick' ⟨rfl, rfl, rfl, rfl, rfl, rfl, rfl, rfl, rfl, rfl, rfl, rfl, trivial⟩, St.sel S764 6 [1, 2, 3, 4, 0, 5] rfl rfl⟩
                    · replace hm := ifTe hb73 hm
                      refine cnd_true (b := decide (x64 ≥ 0)) A764 rfl rfl hb73 ?_
                      refine wp_region_lit ?_
                      refine sv A764 S764 (opT_move (v := va2) rfl rfl) rfl rfl ?_
                      clear A764 S764 a764 w764;intro a765 w765 A765 S765
                      refine sv A765 S765 (opT_move (v := .int .i64 x64) rfl rfl) rfl rfl ?_
                      clear A765 S765 a765 w765;intro a766 w766 A766 S766
                      obtain ⟨x66, e108, hm⟩ := bind_some hm
                      refine sv A766 S766 (opT_index_hd (xs := p1) (i := x64) (n := 1) (Hd.of_rd ra2) Try.underlying34 ti3 rfl rfl rfl (getI_in e108)) rfl rfl ?_
                      clear A766 S766 a766 w766;intro a767 w767 A767 S767
                      refine seq_op0 A767 S767 (opT_load_el (S := rInt) (xs := p1) (a := x66) (i := x64) (k := 1) (off := 0) (f := fun (x : Int) => x) ra2 e108 Fld.self ti3 rfl rfl rfl rfl rfl) rfl rfl ?_
                      rintro u a768 w768 hf A768 S768
                      obtain rfl := lds_one hf
                      clear A767 S767 a767 w767
                      refine sv A768 S768 (opT_assign (v := .int .i64 x66) rfl rfl) rfl rfl ?_
                      clear A768 S768 a768 w768;intro a769 w769 A769 S769
                      refine wpList_nil ?_
                      replace A769 := A769.pick' (L' := [(1, va2), (2, .pointer (some ⟨g1, 0, none⟩)), (6, v91), (7, v92), (10, .pointer (some ⟨g7, 0, none⟩)), (12, .int .i64 x66), (16, va2), (17, .int .i64 (p1.length : Int)), (18, .int .i64 s37.2.2), (34, v116), (35, .int .i64 (x57.length : Int)), (36, .int .i64 s52.1)]) ⟨rfl, rfl, rfl, rfl, rfl, rfl, rfl, rfl, rfl, rfl, rfl, rfl, trivial⟩
                      refine nrm ?_
                      obtain rfl := Option.some.inj hm
                      exact ⟨A769.pick' ⟨rfl, rfl, rfl, rfl, rfl, rfl, rfl, rfl, rfl, rfl, rfl, rfl, trivial⟩, St.sel S769 6 [1, 2, 3, 4, 0, 5] rfl rfl⟩
                  · rintro a770 w770 ⟨A770, S770⟩
                    refine wp_region_lit ?_
                    refine seq_op A770 S770 rfl (opT_load_blk (g := g7) (off := 0) (E := 34) (l := [v123]) (d := [v123]) (u := v123) ti34 rfl rfl rfl rfl rfl rfl) (perm_front (i := 3) rfl) rfl ?_
                    rintro u a771 w771 hf A771 (S771 : St I w0 w771 [Ch.blk g7 [v123] 34, Ch.blk g1 [.int .i64 p0.1, va0, va1] 27, Ch.own (rSlice 34 (rSlice 3 rInt)) [v91] s37.1, Ch.own (rSlice 3 rInt) [v92] s37.2.1, Ch.own (rSlice 3 rInt) [v123] s52.2, F])
                    obtain rfl := Eq.symm hf
                    clear A770 S770 a770 w770
                    refine sv A771 S771 (opT_move (v := .int .i64 s54) rfl rfl) rfl rfl ?_
                    clear A771 S771 a771 w771;intro a772 w772 A772 S772
                    refine seq_op A772 S772 rfl (opT_lit_cpy (E := 3) (R := rInt) (S := rInt) [(.int .i64 s54, [.int .i64 s54])] [s54] cpy_int (rd_all ⟨rfl, trivial⟩) Try.underlying34 tz3 (by decide) rfl (by decide) (by decide) rfl rfl rfl rfl (us_all ⟨⟨rfl, rfl⟩, trivial⟩)) (List.Perm.refl _) rfl ?_
                    rintro v124 a773 w773 - A773 (S773 : St I w0 w773 [Ch.own (rSlice 3 rInt) [v124] ([s54]), Ch.blk g7 [v123] 34, Ch.blk g1 [.int .i64 p0.1, va0, va1] 27, Ch.own (rSlice 34 (rSlice 3 rInt)) [v91] s37.1, Ch.own (rSlice 3 rInt) [v92] s37.2.1, Ch.own (rSlice 3 rInt) [v123] s52.2, F])
                    clear A772 S772 a772 w772
                    obtain ⟨z38, e109, hm⟩ := bind_some hm
                    refine seq_op A773 S773 rfl (opT_app (E := 3) (R := rInt) (s := v123) (u := v124) e109 Try.underlying34 tz3 rfl (by decide) rfl (by decide) rfl rfl rfl) (perm_sel [5, 0, 1, 2, 3, 4, 6] (m := 7) rfl rfl) rfl ?_
                    rintro v125 a774 w774 - A774 (S774 : St I w0 w774 [Ch.own (rSlice 3 rInt) [v125] z38, Ch.blk g7 [v123] 34, Ch.blk g1 [.int .i64 p0.1, va0, va1] 27, Ch.own (rSlice 34 (rSlice 3 rInt)) [v91] s37.1, Ch.own (rSlice 3 rInt) [v92] s37.2.1, F])
                    clear A773 S773 a773 w773
                    refine seq_op A774 S774 rfl (opT_store_blk (g := g7) (off := 0) (l := [v123]) (d := [v125]) (E := 34) (u := v125) ti34 rfl rfl rfl (Hd.cells (St.hd S774 0 rfl).1) rfl (allC (Hd.one (St.hd S774 0 rfl).1) allN) (Nat.le_of_ble_eq_true rfl)) (perm_front (i := 1) rfl) rfl ?_
                    rintro _ a775 w775 - A775 (S775 : St I w0 w775 [Ch.blk g7 [v125] 34, Ch.own (rSlice 3 rInt) [v125] z38, Ch.blk g1 [.int .i64 p0.1, va0, va1] 27, Ch.own (rSlice 34 (rSlice 3 rInt)) [v91] s37.1, Ch.own (rSlice 3 rInt) [v92] s37.2.1, F])
                    clear A774 S774 a774 w774
                    refine wpList_nil ?_
                    replace A775 := A775.pick' (L' := [(1, va2), (2, .pointer (some ⟨g1, 0, none⟩)), (6, v91), (7, v92), (10, .pointer (some ⟨g7, 0, none⟩)), (16, va2), (17, .int .i64 (p1.length : Int)), (18, .int .i64 s37.2.2), (34, v116), (35, .int .i64 (x57.length : Int)), (36, .int .i64 s52.1)]) ⟨rfl, rfl, rfl, rfl, rfl, rfl, rfl, rfl, rfl, rfl, rfl, trivial⟩
                    refine nrmB ?_
                    refine nrm ?_
                    refine wp_region_lit ?_
                    refine sv A775 S775 (opT_add (m := s52.1) (n := 1) rfl rfl rfl) rfl rfl ?_
                    clear A775 S775 a775 w775;intro a776 w776 A776 S776
                    refine sv A776 S776 (opT_move (v := .int .i64 (IntKind.i64.wrap (s52.1 + 1))) rfl rfl) rfl rfl ?_
                    clear A776 S776 a776 w776;intro a777 w777 A777 S777
                    refine wpList_nil ?_
                    replace A777 := A777.pick' (L' := [(1, va2), (2, .pointer (some ⟨g1, 0, none⟩)), (6, v91), (7, v92), (10, .pointer (some ⟨g7, 0, none⟩)), (16, va2), (17, .int .i64 (p1.length : Int)), (18, .int .i64 s37.2.2), (34, v116), (35, .int .i64 (x57.length : Int)), (36, .int .i64 (IntKind.i64.wrap (s52.1 + 1)))]) ⟨rfl, rfl, rfl, rfl, rfl, rfl, rfl, rfl, rfl, rfl, rfl, trivial⟩
                    refine nrm ?_
                    exact ⟨_, (Option.some.inj hm).symm, ⟨v125, A777.pick' ⟨rfl, rfl, rfl, rfl, rfl, rfl, rfl, rfl, rfl, rfl, rfl, trivial⟩, St.sel S777 6 [1, 2, 3, 4, 0, 5] rfl rfl⟩⟩
            · rintro a778 w778 ⟨s53, ho31, v122, A778, S778⟩
              replace hm := loopOut ho31 hc32
              clear ho31 hc32 hl7
              refine nrm ?_
              refine wp_seq ?_
              refine wp_region_lit ?_
              refine sv A778 S778 (opT_move (v := v91) rfl rfl) rfl rfl ?_
              clear A778 S778 a778 w778;intro a779 w779 A779 S779
              refine sv A779 S779 (opT_make_func (v := .func (.func 173) #[] #[.pointer (some ⟨g7, 0, none⟩)]) rfl rfl) rfl rfl ?_
              clear A779 S779 a779 w779;intro a780 w780 A780 S780
              obtain ⟨r12, e110, hm⟩ := bind_some hm
              refine seq_op A780 S780 rfl (OpT.lend (ls := [Ch.own (rSlice 34 (rSlice 3 rInt)) [v91] s37.1, Ch.blk g7 [v122] 34, Ch.own (rSlice 3 rInt) [v122] s53.2]) (gv := fun v => []) (fun _ => trivial) fun J hJ hl hb => opT_call (args := #[v91, .func (.func 173) #[] #[.pointer (some ⟨g7, 0, none⟩)]]) (first := #[]) (captured := #[]) en172 rfl rfl rfl (c_g_slices_IndexFunc_S_S_int_S_int s37.1 (fun a0 => m_i_Automaton_refine_1 a0 s53.2) _ e110 v91 (.func (.func 173) #[] #[.pointer (some ⟨g7, 0, none⟩)]) (hl _ _ _ (List.Mem.head _)) ⟨isFn, fun J6 hJ6 b6_0 r hm k6_0 l6_0 => ⟨173, #[], #[.pointer (some ⟨g7, 0, none⟩)], rfl, en173, c_i_Automaton_refine_1 b6_0 s53.2 _ hm k6_0 g7 v122 l6_0 (hJ6 _ _ (hb _ _ _ (List.Mem.tail _ (List.Mem.head _)))) (Rep.rd_mono _ (hl _ _ _ (List.Mem.tail _ (List.Mem.tail _ (List.Mem.head _)))) hJ6)⟩⟩)) (perm_sel [2, 4, 0, 1, 3, 5] (m := 6) rfl rfl) rfl ?_
              rintro u a781 w781 hf A781 (S781 : St I w0 w781 [Ch.own (rSlice 34 (rSlice 3 rInt)) [v91] s37.1, Ch.blk g7 [v122] 34, Ch.own (rSlice 3 rInt) [v122] s53.2, Ch.blk g1 [.int .i64 p0.1, va0, va1] 27, Ch.own (rSlice 3 rInt) [v92] s37.2.1, F])
              obtain rfl := Eq.symm hf
              clear A780 S780 a780 w780
              refine sv A781 S781 (opT_assign (v := .int .i64 r12) rfl rfl) rfl rfl ?_
              clear A781 S781 a781 w781;intro a782 w782 A782 S782
              refine wpList_nil ?_
              replace A782 := A782.pick' (L' := [(1, va2), (2, .pointer (some ⟨g1, 0, none⟩)), (6, v91), (7, v92), (10, .pointer (some ⟨g7, 0, none⟩)), (13, .int .i64 r12), (16, va2), (17, .int .i64 (p1.length : Int)), (18, .int .i64 s37.2.2)]) ⟨rfl, rfl, rfl, rfl, rfl, rfl, rfl, rfl, rfl, trivial⟩
              refine nrm ?_
              obtain ⟨s55, hj27, hm⟩ := bind_some hm
              refine wp_seq_cut (fun a w => ∃ v128 : Value, Agr 70 a [(1, va2), (2, .pointer (some ⟨g1, 0, none⟩)), (6, v128), (7, v92), (13, .int .i64 s55.2), (16, va2), (17, .int .i64 (p1.length : Int)), (18, .int .i64 s37.2.2)] ∧ St I w0 w [Ch.own (rSlice 34 (rSlice 3 rInt)) [v128] s55.1, Ch.blk g1 [.int .i64 p0.1, va0, va1] 27, Ch.own (rSlice 3 rInt) [v92] s37.2.1, F]) ?_ ?_
              · replace hm := hj27
                refine wp_seq ?_
                refine wp_region_lit ?_
                refine sv A782 S782 (opT_move (v := .int .i64 r12) rfl rfl) rfl rfl ?_
                clear A782 S782 a782 w782;intro a793 w793 A793 S793
                refine sv A793 S793 (opT_cmp (k := .i64) (m := r12) (n := 0) (c := decide (r12 < 0)) rfl rfl rfl rfl rfl) rfl rfl ?_
                clear A793 S793 a793 w793;intro a794 w794 A794 S794
                refine wpList_nil ?_
                replace A794 := A794.pick' (L' := [(1, va2), (2, .pointer (some ⟨g1, 0, none⟩)), (6, v91), (7, v92), (10, .pointer (some ⟨g7, 0, none⟩)), (13, .int .i64 r12), (16, va2), (17, .int .i64 (p1.length : Int)), (18, .int .i64 s37.2.2), (55, .bool (decide (r12 < 0)))]) ⟨rfl, rfl, rfl, rfl, rfl, rfl, rfl, rfl, rfl, rfl, trivial⟩
                refine nrm ?_
                rcases two (decide (r12 < 0)) with hb75 | hb75
                · replace hm := ifFe hb75 hm
                  refine cnd_false (b := decide (r12 < 0)) A794 rfl rfl hb75 ?_
                  refine wp_skip ?_
                  refine nrm ?_
                  obtain rfl := Option.some.inj hm
                  exact ⟨v91, A794.pick' ⟨rfl, rfl, rfl, rfl, rfl, rfl, rfl, rfl, trivial⟩, St.sel S794 6 [0, 3, 4, 5] rfl rfl⟩
                · replace hm := ifTe hb75 hm
                  refine cnd_true (b := decide (r12 < 0)) A794 rfl rfl hb75 ?_
                  refine wp_seq ?_
                  refine wp_region_lit ?_
                  refine sv A794 S794 (opT_move (v := v91) rfl rfl) rfl rfl ?_
                  clear A794 S794 a794 w794;intro a795 w795 A795 S795
                  refine sv A795 S795 (opT_len_hd (v := v91) (n := s37.1.length) (St.hd S795 0 rfl).1 Try.underlying23 rfl rfl) rfl rfl ?_
                  clear A795 S795 a795 w795;intro a796 w796 A796 S796
                  refine sv A796 S796 (opT_assign (v := .int .i64 (s37.1.length : Int)) rfl rfl) rfl rfl ?_
                  clear A796 S796 a796 w796;intro a797 w797 A797 S797
                  refine wpList_nil ?_
                  replace A797 := A797.pick' (L' := [(1, va2), (2, .pointer (some ⟨g1, 0, none⟩)), (6, v91), (7, v92), (10, .pointer (some ⟨g7, 0, none⟩)), (13, .int .i64 (s37.1.length : Int)), (16, va2), (17, .int .i64 (p1.length : Int)), (18, .int .i64 s37.2.2)]) ⟨rfl, rfl, rfl, rfl, rfl, rfl, rfl, rfl, rfl, trivial⟩
                  refine nrm ?_
                  refine wp_region_lit ?_
                  refine sv A797 S797 (opT_move (v := v91) rfl rfl) rfl rfl ?_
                  clear A797 S797 a797 w797;intro a798 w798 A798 S798
                  refine seq_op A798 S798 rfl (opT_load_blk (g := g7) (off := 0) (E := 34) (l := [v122]) (d := [v122]) (u := v122) ti34 rfl rfl rfl rfl rfl rfl) (perm_front (i := 1) rfl) rfl ?_
                  rintro u a799 w799 hf A799 (S799 : St I w0 w799 [Ch.blk g7 [v122] 34, Ch.own (rSlice 34 (rSlice 3 rInt)) [v91] s37.1, Ch.own (rSlice 3 rInt) [v122] s53.2, Ch.blk g1 [.int .i64 p0.1, va0, va1] 27, Ch.own (rSlice 3 rInt) [v92] s37.2.1, F])
                  obtain rfl := Eq.symm hf
                  clear A798 S798 a798 w798
                  refine seq_op A799 S799 rfl (opT_lit (E := 34) (R := rSlice 3 rInt) [(v122, [v122])] [s53.2] Try.underlying23 tz34 (by decide) rfl (by decide) (by decide) rfl rfl rfl rfl (us_all ⟨⟨(Hd.cells (St.hd S799 2 rfl).1), rfl⟩, trivial⟩)) (perm_front (i := 2) rfl) rfl ?_
                  rintro v129 a800 w800 - A800 (S800 : St I w0 w800 [Ch.own (rSlice 34 (rSlice 3 rInt)) [v129] ([s53.2]), Ch.blk g7 [v122] 34, Ch.own (rSlice 34 (rSlice 3 rInt)) [v91] s37.1, Ch.blk g1 [.int .i64 p0.1, va0, va1] 27, Ch.own (rSlice 3 rInt) [v92] s37.2.1, F])
                  clear A799 S799 a799 w799
                  obtain ⟨z40, e112, hm⟩ := bind_some hm
                  refine seq_op A800 S800 rfl (opT_app (E := 34) (R := rSlice 3 rInt) (s := v91) (u := v129) e112 Try.underlying23 tz34 rfl (by decide) rfl (by decide) rfl rfl rfl) (perm_sel [2, 0, 1, 3, 4, 5] (m := 6) rfl rfl) rfl ?_
                  rintro v130 a801 w801 - A801 (S801 : St I w0 w801 [Ch.own (rSlice 34 (rSlice 3 rInt)) [v130] z40, Ch.blk g7 [v122] 34, Ch.blk g1 [.int .i64 p0.1, va0, va1] 27, Ch.own (rSlice 3 rInt) [v92] s37.2.1, F])
                  clear A800 S800 a800 w800
                  refine sv A801 S801 (opT_assign (v := v130) rfl rfl) rfl rfl ?_
                  clear A801 S801 a801 w801;intro a802 w802 A802 S802
                  refine wpList_nil ?_
                  replace A802 := A802.pick' (L' := [(1, va2), (2, .pointer (some ⟨g1, 0, none⟩)), (6, v130), (7, v92), (13, .int .i64 (s37.1.length : Int)), (16, va2), (17, .int .i64 (p1.length : Int)), (18, .int .i64 s37.2.2)]) ⟨rfl, rfl, rfl, rfl, rfl, rfl, rfl, rfl, trivial⟩
                  refine nrm ?_
                  obtain rfl := Option.some.inj hm
                  exact ⟨v130, A802.pick' ⟨rfl, rfl, rfl, rfl, rfl, rfl, rfl, rfl, trivial⟩, St.sel S802 5 [0, 2, 3, 4] rfl rfl⟩
              · rintro a803 w803 ⟨v128, A803, S803⟩
                refine wp_region_lit ?_
                refine sv A803 S803 (opT_move (v := v92) rfl rfl) rfl rfl ?_
                clear A803 S803 a803 w803;intro a804 w804 A804 S804
                refine sv A804 S804 (opT_move (v := .int .i64 s55.2) rfl rfl) rfl rfl ?_
                clear A804 S804 a804 w804;intro a805 w805 A805 S805
                refine seq_op A805 S805 rfl (opT_lit_cpy (E := 3) (R := rInt) (S := rInt) [(.int .i64 s55.2, [.int .i64 s55.2])] [s55.2] cpy_int (rd_all ⟨rfl, trivial⟩) Try.underlying34 tz3 (by decide) rfl (by decide) (by decide) rfl rfl rfl rfl (us_all ⟨⟨rfl, rfl⟩, trivial⟩)) (List.Perm.refl _) rfl ?_
                rintro v131 a806 w806 - A806 (S806 : St I w0 w806 [Ch.own (rSlice 3 rInt) [v131] ([s55.2]), Ch.own (rSlice 34 (rSlice 3 rInt)) [v128] s55.1, Ch.blk g1 [.int .i64 p0.1, va0, va1] 27, Ch.own (rSlice 3 rInt) [v92] s37.2.1, F])
                clear A805 S805 a805 w805
                obtain ⟨z41, e113, hm⟩ := bind_some hm
                refine seq_op A806 S806 rfl (opT_app (E := 3) (R := rInt) (s := v92) (u := v131) e113 Try.underlying34 tz3 rfl (by decide) rfl (by decide) rfl rfl rfl) (perm_sel [3, 0, 1, 2, 4] (m := 5) rfl rfl) rfl ?_
                rintro v132 a807 w807 - A807 (S807 : St I w0 w807 [Ch.own (rSlice 3 rInt) [v132] z41, Ch.own (rSlice 34 (rSlice 3 rInt)) [v128] s55.1, Ch.blk g1 [.int .i64 p0.1, va0, va1] 27, F])
                clear A806 S806 a806 w806
                refine sv A807 S807 (opT_assign (v := v132) rfl rfl) rfl rfl ?_
                clear A807 S807 a807 w807;intro a808 w808 A808 S808
                refine wpList_nil ?_
                replace A808 := A808.pick' (L' := [(1, va2), (2, .pointer (some ⟨g1, 0, none⟩)), (6, v128), (7, v132), (16, va2), (17, .int .i64 (p1.length : Int)), (18, .int .i64 s37.2.2)]) ⟨rfl, rfl, rfl, rfl, rfl, rfl, rfl, trivial⟩
                refine nrmB ?_
                refine nrm ?_
                obtain rfl := Option.some.inj hm
                exact ⟨v128, v132, A808.pick' ⟨rfl, rfl, rfl, rfl, rfl, rfl, rfl, trivial⟩, St.sel S808 4 [1, 0, 2, 3] rfl rfl⟩
          · replace hm := ifTe hb64 hm
            refine cnd_true (b := decide (x56 < 0)) A687 rfl rfl hb64 ?_
            refine wp_seq ?_
            refine wp_region_lit ?_
            refine sv A687 S687 (opT_move (v := v92) rfl rfl) rfl rfl ?_
            clear A687 S687 a687 w687;intro a809 w809 A809 S809
            refine seq_op A809 S809 rfl (opT_lit_cpy (E := 3) (R := rInt) (S := rInt) [(.int .i64 (-1), [.int .i64 (-1)])] [-1] cpy_int (rd_all ⟨rfl, trivial⟩) Try.underlying34 tz3 (by decide) rfl (by decide) (by decide) rfl rfl rfl rfl (us_all ⟨⟨rfl, rfl⟩, trivial⟩)) (List.Perm.refl _) rfl ?_
            rintro v133 a810 w810 - A810 (S810 : St I w0 w810 [Ch.own (rSlice 3 rInt) [v133] ([-1]), Ch.own (rSlice 34 (rSlice 3 rInt)) [v91] s37.1, Ch.own (rSlice 3 rInt) [v92] s37.2.1, Ch.blk g1 [.int .i64 p0.1, va0, va1] 27, F])
            clear A809 S809 a809 w809
            obtain ⟨z42, e114, hm⟩ := bind_some hm
            refine seq_op A810 S810 rfl (opT_app (E := 3) (R := rInt) (s := v92) (u := v133) e114 Try.underlying34 tz3 rfl (by decide) rfl (by decide) rfl rfl rfl) (perm_sel [2, 0, 1, 3, 4] (m := 5) rfl rfl) rfl ?_
            rintro v134 a811 w811 - A811 (S811 : St I w0 w811 [Ch.own (rSlice 3 rInt) [v134] z42, Ch.own (rSlice 34 (rSlice 3 rInt)) [v91] s37.1, Ch.blk g1 [.int .i64 p0.1, va0, va1] 27, F])
            clear A810 S810 a810 w810
            refine sv A811 S811 (opT_assign (v := v134) rfl rfl) rfl rfl ?_
            clear A811 S811 a811 w811;intro a812 w812 A812 S812
            refine wpList_nil ?_
            replace A812 := A812.pick' (L' := [(1, va2), (2, .pointer (some ⟨g1, 0, none⟩)), (6, v91), (7, v134), (16, va2), (17, .int .i64 (p1.length : Int)), (18, .int .i64 s37.2.2)]) ⟨rfl, rfl, rfl, rfl, rfl, rfl, rfl, trivial⟩
            refine nrm ?_
            refine wp_exit ?_
            refine thenX ?_
            refine ex_in ?_
            refine nrm ?_
            obtain rfl := Option.some.inj hm
            exact ⟨v91, v134, A812.pick' ⟨rfl, rfl, rfl, rfl, rfl, rfl, rfl, trivial⟩, St.sel S812 4 [1, 0, 2, 3] rfl rfl⟩
        · rintro a813 w813 ⟨v113, v114, A813, S813⟩
          refine wp_region_lit ?_
          refine sv A813 S813 (opT_add (m := s37.2.2) (n := 1) rfl rfl rfl) rfl rfl ?_
          clear A813 S813 a813 w813;intro a814 w814 A814 S814
          refine sv A814 S814 (opT_move (v := .int .i64 (IntKind.i64.wrap (s37.2.2 + 1))) rfl rfl) rfl rfl ?_
          clear A814 S814 a814 w814;intro a815 w815 A815 S815
          refine wpList_nil ?_
          replace A815 := A815.pick' (L' := [(1, va2), (2, .pointer (some ⟨g1, 0, none⟩)), (6, v113), (7, v114), (16, va2), (17, .int .i64 (p1.length : Int)), (18, .int .i64 (IntKind.i64.wrap (s37.2.2 + 1)))]) ⟨rfl, rfl, rfl, rfl, rfl, rfl, rfl, trivial⟩
          refine nrm ?_
          exact ⟨_, (Option.some.inj hm).symm, ⟨v113, v114, A815.pick' ⟨rfl, rfl, rfl, rfl, rfl, rfl, rfl, trivial⟩, St.sel S815 4 [0, 1, 2, 3] rfl rfl⟩⟩
  · rintro a816 w816 ⟨s38, ho34, v89, v90, A816, S816⟩
    replace hm := loopOut ho34 hc23
    clear ho34 hc23 hl5
    refine nrm ?_
    refine wp_seq ?_
    refine wp_region_lit ?_
    refine sv A816 S816 (opT_move (v := v90) rfl rfl) rfl rfl ?_
    clear A816 S816 a816 w816;intro a817 w817 A817 S817
    refine sv A817 S817 (opT_move (v := v89) rfl rfl) rfl rfl ?_
    clear A817 S817 a817 w817;intro a818 w818 A818 S818
    refine sv A818 S818 (opT_len_hd (v := v89) (n := s38.1.length) (St.hd S818 0 rfl).1 Try.underlying23 rfl rfl) rfl rfl ?_
    clear A818 S818 a818 w818;intro a819 w819 A819 S819
    refine sv A819 S819 (opT_assign (v := v90) rfl rfl) rfl rfl ?_
    clear A819 S819 a819 w819;intro a820 w820 A820 S820
    refine sv A820 S820 (opT_assign (v := .int .i64 (s38.1.length : Int)) rfl rfl) rfl rfl ?_
    clear A820 S820 a820 w820;intro a821 w821 A821 S821
    refine wpList_nil ?_
    replace A821 := A821.pick' (L' := [(4, v90), (5, .int .i64 (s38.1.length : Int))]) ⟨rfl, rfl, trivial⟩
    refine nrm ?_
    refine wp_ret ?_
    obtain rfl := Option.some.inj hm
    exact ret_2 A821 rfl (res_tmp A821 rfl) (res_tmp A821 rfl) ⟨_, rfl, ⟨_, rfl⟩, _, Hp.le.rfl, St.sel (S821) 3 [1, 2] rfl rfl⟩
end Go.Proofs.Ytcihbmdppgpmjaa.D
