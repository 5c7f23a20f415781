/- Printed by dec.py: models of functions and the walks that show them. -/
import Derived.Test.YtcihbmdppgpmjaaCw0_2
import Derived.Test.YtcihbmdppgpmjaaCw1_0
set_option linter.unusedVariables false
set_option linter.unusedSimpArgs false
set_option linter.unnecessarySimpa false
set_option maxRecDepth 100000
set_option maxHeartbeats 8000000
namespace Go.Proofs.Ytcihbmdppgpmjaa.D
open Go.RowKit
theorem c_i_Automaton_refine (p0 : Int × (List Bool) × (List (List Int))) (p1 : List Int) (r : (List Int) × Int) (hm : m_i_Automaton_refine p0 p1 = some r) {I : Hp} {w0 : World} (va0 : Value) (va1 : Value) (va2 : Value) (ra0 : (rSlice 4 rBool).rd I [va0] p0.2.1) (ra1 : (rSlice 34 (rSlice 3 rInt)).rd I [va1] p0.2.2) (ra2 : (rSlice 3 rInt).rd I [va2] p1) : Con Try.prog 151 #[.agg #[.int .i64 p0.1, va0, va1], va2] I w0 [] (fun v => ∃ h0 : Value, v = .tuple #[h0, .int .i64 r.2]) (fun v => [Ch.own (rSlice 3 rInt) [vg v [0]] r.1]) := by
  refine con_of_wp (n := 70) [(0, .agg #[.int .i64 p0.1, va0, va1]), (1, va2)] Try.func151 rfl rfl (Nat.le_of_ble_eq_true rfl) (args_all ⟨rfl, rfl, trivial⟩) (fun F w a ha hs => ?_) (fun v => ⟨dp_own (dp_slice dp_int), trivial⟩)
  unfold m_i_Automaton_refine at hm
  refine wp_seq (wp_region_lit (rn ha hs (sop (opT_box (u := .agg #[.int .i64 p0.1, va0, va1]) (l := [.int .i64 p0.1, va0, va1]) rfl rfl rfl) (List.Perm.refl _) rfl rfl ?_)))
  rintro _ a1 w1 ⟨g1, rfl⟩ A1 (S1 : St I w0 w1 [Ch.blk g1 [.int .i64 p0.1, va0, va1] 27, F])
  clear ha hs a w
  refine rn A1 S1 (sv (opT_assign (v := .slice none 0 0) rfl rfl) rfl rfl (sv (opT_assign (v := .int .i64 0) rfl rfl) rfl rfl (enR (L' := [(1, va2), (2, .pointer (some ⟨g1, 0, none⟩))]) rfl ?_)))
  clear A1 S1 a1 w1;intro a2 w2 A2 S2
  refine nrm (wp_seq (wp_region_lit (rn A2 S2 (sop (opT_lit0 (E := 34) (R := rSlice 3 rInt) Try.underlying23 ti34 rfl) (List.Perm.refl _) rfl rfl ?_))))
  rintro v1 a3 w3 - A3 (S3 : St I w0 w3 [Ch.own (rSlice 34 (rSlice 3 rInt)) [v1] ([] : List (List Int)), Ch.blk g1 [.int .i64 p0.1, va0, va1] 27, F])
  clear A2 S2 a2 w2
  refine rn A3 S3 (sv (opT_assign (v := v1) rfl rfl) rfl rfl (enR (L' := [(1, va2), (2, .pointer (some ⟨g1, 0, none⟩)), (6, v1)]) rfl ?_))
  clear A3 S3 a3 w3;intro a4 w4 A4 S4
  refine nrm (wp_seq (wp_region_lit (rn A4 S4 (sop (opT_lit0 (E := 3) (R := rInt) Try.underlying34 ti3 rfl) (List.Perm.refl _) rfl rfl ?_))))
  rintro v2 a5 w5 - A5 (S5 : St I w0 w5 [Ch.own (rSlice 3 rInt) [v2] ([] : List Int), Ch.own (rSlice 34 (rSlice 3 rInt)) [v1] ([] : List (List Int)), Ch.blk g1 [.int .i64 p0.1, va0, va1] 27, F])
  clear A4 S4 a4 w4
  refine rn A5 S5 (sv (opT_assign (v := v2) rfl rfl) rfl rfl (enR (L' := [(1, va2), (2, .pointer (some ⟨g1, 0, none⟩)), (6, v1), (7, v2)]) rfl ?_))
  clear A5 S5 a5 w5;intro a6 w6 A6 S6
  refine nrm (wp_seq (wp_seq (wp_region_lit (rn A6 S6 (sv (opT_move (v := va2) rfl rfl) rfl rfl (sv (opT_len_hd (v := va2) (n := p1.length) (Hd.of_rd ra2) Try.underlying34 rfl rfl) rfl rfl (sv (opT_move (v := .int .i64 0) rfl rfl) rfl rfl (enR (L' := [(1, va2), (2, .pointer (some ⟨g1, 0, none⟩)), (6, v1), (7, v2), (16, va2), (17, .int .i64 (p1.length : Int)), (18, .int .i64 0)]) rfl ?_))))))))
  clear A6 S6 a6 w6;intro a7 w7 A7 S7
  refine nrm ?_
  obtain ⟨o27, hl5, hc23⟩ := bindL_some hm
  refine wp_cut (fun a w => ∃ s38 : (List (List Int)) × (List Int) × Int, o27 = .brk s38 ∧ ∃ v89 v90 : Value, Agr 70 a [(6, v89), (7, v90)] ∧ St I w0 w [Ch.own (rSlice 34 (rSlice 3 rInt)) [v89] s38.1, Ch.own (rSlice 3 rInt) [v90] s38.2.1, F]) ?_ ?_
  · refine wp_block (wp_loopM (R := (List Int) × Int) (S := (List (List Int)) × (List Int) × Int) (fun s37 a w => ∃ v91 v92 : Value, Agr 70 a [(1, va2), (2, .pointer (some ⟨g1, 0, none⟩)), (6, v91), (7, v92), (16, va2), (17, .int .i64 (p1.length : Int)), (18, .int .i64 s37.2.2)] ∧ St I w0 w [Ch.own (rSlice 34 (rSlice 3 rInt)) [v91] s37.1, Ch.own (rSlice 3 rInt) [v92] s37.2.1, Ch.blk g1 [.int .i64 p0.1, va0, va1] 27, F]) hl5 ?_ ?_)
    · exact ⟨v1, v2, A7.pick' ⟨rfl, rfl, rfl, rfl, rfl, rfl, rfl, trivial⟩, St.sel S7 4 [1, 0, 2, 3] rfl rfl⟩
    rintro s37 o28 hm hf5 a322 w322 ⟨v91, v92, A322, S322⟩
    unfold m_i_Automaton_refine_l0 at hm
    refine wp_seq (wp_region_lit (rn A322 S322 (sv (opT_cmp (k := .i64) (m := s37.2.2) (n := (p1.length : Int)) (c := decide (s37.2.2 < (p1.length : Int))) rfl rfl rfl rfl rfl) rfl rfl (enR (L' := [(1, va2), (2, .pointer (some ⟨g1, 0, none⟩)), (6, v91), (7, v92), (16, va2), (17, .int .i64 (p1.length : Int)), (18, .int .i64 s37.2.2), (19, .bool (decide (s37.2.2 < (p1.length : Int))))]) rfl ?_))))
    clear A322 S322 a322 w322;intro a323 w323 A323 S323
    refine nrm (wp_seq ?_)
    rcases two (decide (s37.2.2 < (p1.length : Int))) with hb51 | hb51
    · replace hm := ifFe hb51 hm
      refine cnd_false (b := decide (s37.2.2 < (p1.length : Int))) A323 rfl rfl hb51 ?_
      exact wp_exit (thenX (thenX (ex_in (nrm (⟨_, loopBrk hm hf5, ⟨v91, v92, A323.pick' ⟨rfl, rfl, trivial⟩, St.sel S323 4 [0, 1, 3] rfl rfl⟩⟩)))))
    replace hm := ifTe hb51 hm
    refine cnd_true (b := decide (s37.2.2 < (p1.length : Int))) A323 rfl rfl hb51 ?_
    refine wp_skip (nrm ?_)
    obtain ⟨s47, hj23, hm⟩ := bind_some hm
    refine wp_seq_cut (fun a w => ∃ v113 v114 : Value, Agr 70 a [(1, va2), (2, .pointer (some ⟨g1, 0, none⟩)), (6, v113), (7, v114), (16, va2), (17, .int .i64 (p1.length : Int)), (18, .int .i64 s37.2.2)] ∧ St I w0 w [Ch.own (rSlice 34 (rSlice 3 rInt)) [v113] s47.1, Ch.own (rSlice 3 rInt) [v114] s47.2, Ch.blk g1 [.int .i64 p0.1, va0, va1] 27, F]) ?_ ?_
    · replace hm := hj23
      refine wp_block (wp_seq (wp_region_lit (rn A323 S323 (sv (opT_move (v := .int .i64 s37.2.2) rfl rfl) rfl rfl ?_))))
      obtain ⟨x56, e96, hm⟩ := bind_some hm
      refine sv (opT_index_hd (xs := p1) (i := s37.2.2) (n := 1) (Hd.of_rd ra2) Try.underlying34 ti3 rfl rfl rfl (getI_in e96)) rfl rfl (so0 (opT_load_el (S := rInt) (xs := p1) (a := x56) (i := s37.2.2) (k := 1) (off := 0) (f := fun (x : Int) => x) ra2 e96 Fld.self ti3 rfl rfl rfl rfl rfl) rfl rfl ?_)
      rintro u a401 w401 hf A401 S401
      obtain rfl := lds_one hf
      clear A323 S323 a323 w323
      refine rn A401 S401 (sv (opT_assign (v := .int .i64 s37.2.2) rfl rfl) rfl rfl (sv (opT_assign (v := .int .i64 x56) rfl rfl) rfl rfl (enR (L' := [(1, va2), (2, .pointer (some ⟨g1, 0, none⟩)), (6, v91), (7, v92), (8, .int .i64 s37.2.2), (9, .int .i64 x56), (16, va2), (17, .int .i64 (p1.length : Int)), (18, .int .i64 s37.2.2)]) rfl ?_)))
      clear A401 S401 a401 w401;intro a402 w402 A402 S402
      refine nrm (wp_seq (wp_seq (wp_region_lit (rn A402 S402 (sv (opT_move (v := .int .i64 x56) rfl rfl) rfl rfl (sv (opT_cmp (k := .i64) (m := x56) (n := 0) (c := decide (x56 < 0)) rfl rfl rfl rfl rfl) rfl rfl (enR (L' := [(1, va2), (2, .pointer (some ⟨g1, 0, none⟩)), (6, v91), (7, v92), (8, .int .i64 s37.2.2), (9, .int .i64 x56), (16, va2), (17, .int .i64 (p1.length : Int)), (18, .int .i64 s37.2.2), (24, .bool (decide (x56 < 0)))]) rfl ?_)))))))
      clear A402 S402 a402 w402;intro a403 w403 A403 S403
      refine nrm ?_
      rcases two (decide (x56 < 0)) with hb64 | hb64
      · replace hm := ifFe hb64 hm
        refine cnd_false (b := decide (x56 < 0)) A403 rfl rfl hb64 ?_
        refine wp_skip (nrm (wp_seq (wp_region_lit (rn A403 S403 (sv (opT_move (v := .int .i64 x56) rfl rfl) rfl rfl (sop (opT_lit_cpy (E := 3) (R := rInt) (S := rInt) [(.int .i64 x56, [.int .i64 x56])] [x56] cpy_int (rd_all ⟨rfl, trivial⟩) Try.underlying34 tz3 (by decide) rfl (by decide) (by decide) rfl rfl rfl rfl (us_all ⟨⟨rfl, rfl⟩, trivial⟩)) (List.Perm.refl _) rfl rfl ?_))))))
        rintro v115 a404 w404 - A404 (S404 : St I w0 w404 [Ch.own (rSlice 3 rInt) [v115] ([x56]), Ch.own (rSlice 34 (rSlice 3 rInt)) [v91] s37.1, Ch.own (rSlice 3 rInt) [v92] s37.2.1, Ch.blk g1 [.int .i64 p0.1, va0, va1] 27, F])
        clear A403 S403 a403 w403
        refine rn A404 S404 (sop (opT_alloc (l := [.slice none 0 0]) tz34 rfl rfl) (List.Perm.refl _) rfl rfl ?_)
        rintro _ a405 w405 ⟨g7, rfl⟩ A405 (S405 : St I w0 w405 [Ch.blk g7 [.slice none 0 0] 34, Ch.own (rSlice 3 rInt) [v115] ([x56]), Ch.own (rSlice 34 (rSlice 3 rInt)) [v91] s37.1, Ch.own (rSlice 3 rInt) [v92] s37.2.1, Ch.blk g1 [.int .i64 p0.1, va0, va1] 27, F])
        clear A404 S404 a404 w404
        refine rn A405 S405 (sop (opT_store_blk (g := g7) (off := 0) (l := [.slice none 0 0]) (d := [v115]) (E := 34) (u := v115) ti34 rfl rfl rfl (Hd.cells (St.hd S405 1 rfl).1) rfl (allC (Hd.one (St.hd S405 1 rfl).1) allN) (Nat.le_of_ble_eq_true rfl)) (perm_front (i := 0) rfl) rfl rfl ?_)
        rintro _ a406 w406 - A406 (S406 : St I w0 w406 [Ch.blk g7 [v115] 34, Ch.own (rSlice 3 rInt) [v115] ([x56]), Ch.own (rSlice 34 (rSlice 3 rInt)) [v91] s37.1, Ch.own (rSlice 3 rInt) [v92] s37.2.1, Ch.blk g1 [.int .i64 p0.1, va0, va1] 27, F])
        clear A405 S405 a405 w405
        replace A406 := A406.pk (L' := [(1, va2), (2, .pointer (some ⟨g1, 0, none⟩)), (6, v91), (7, v92), (8, .int .i64 s37.2.2), (10, .pointer (some ⟨g7, 0, none⟩)), (16, va2), (17, .int .i64 (p1.length : Int)), (18, .int .i64 s37.2.2)]) rfl
        refine wpList_nil (nrm (wp_seq (wp_seq (wp_region_lit (rn A406 S406 (sv (opT_field_addr (g := g1) (b := 0) tf27_2 rfl rfl) rfl rfl (sop (opT_load_blk (g := g1) (off := 2) (E := 27) (l := [.int .i64 p0.1, va0, va1]) (d := [va1]) (u := va1) ti23 rfl rfl rfl rfl rfl rfl) (perm_front (i := 4) rfl) rfl rfl ?_)))))))
        rintro u a407 w407 hf A407 (S407 : St I w0 w407 [Ch.blk g1 [.int .i64 p0.1, va0, va1] 27, Ch.blk g7 [v115] 34, Ch.own (rSlice 3 rInt) [v115] ([x56]), Ch.own (rSlice 34 (rSlice 3 rInt)) [v91] s37.1, Ch.own (rSlice 3 rInt) [v92] s37.2.1, F])
        obtain rfl := Eq.symm hf
        clear A406 S406 a406 w406
        refine rn A407 S407 (sv (opT_move (v := .int .i64 s37.2.2) rfl rfl) rfl rfl ?_)
        obtain ⟨x57, e97, hm⟩ := bind_some hm
        refine sv (opT_index_hd (xs := p0.2.2) (i := s37.2.2) (n := 1) (Hd.of_rd ra1) Try.underlying23 ti34 rfl rfl rfl (getI_in e97)) rfl rfl (so0 (opT_load_el (S := rSlice 3 rInt) (xs := p0.2.2) (a := x57) (i := s37.2.2) (k := 1) (off := 0) (f := fun (x : List Int) => x) ra1 e97 Fld.self ti34 rfl rfl rfl rfl rfl) rfl rfl ?_)
        rintro v116 a408 w408 hf A408 S408
        have r11 := lds_sl hf
        clear hf
        clear A407 S407 a407 w407
        refine rn A408 S408 (sv (opT_len_hd (v := v116) (n := x57.length) (Hd.of_rd r11) Try.underlying34 rfl rfl) rfl rfl (sv (opT_move (v := .int .i64 0) rfl rfl) rfl rfl (enR (L' := [(1, va2), (2, .pointer (some ⟨g1, 0, none⟩)), (6, v91), (7, v92), (10, .pointer (some ⟨g7, 0, none⟩)), (16, va2), (17, .int .i64 (p1.length : Int)), (18, .int .i64 s37.2.2), (34, v116), (35, .int .i64 (x57.length : Int)), (36, .int .i64 0)]) rfl ?_)))
        clear A408 S408 a408 w408;intro a409 w409 A409 S409
        refine nrm ?_
        obtain ⟨o38, hl7, hc32⟩ := bindL_some hm
        refine wp_cut (fun a w => ∃ s53 : Int × (List Int), o38 = .brk s53 ∧ ∃ v122 : Value, Agr 70 a [(1, va2), (2, .pointer (some ⟨g1, 0, none⟩)), (6, v91), (7, v92), (10, .pointer (some ⟨g7, 0, none⟩)), (16, va2), (17, .int .i64 (p1.length : Int)), (18, .int .i64 s37.2.2)] ∧ St I w0 w [Ch.own (rSlice 3 rInt) [v122] s53.2, Ch.blk g1 [.int .i64 p0.1, va0, va1] 27, Ch.own (rSlice 34 (rSlice 3 rInt)) [v91] s37.1, Ch.own (rSlice 3 rInt) [v92] s37.2.1, Ch.blk g7 [v122] 34, F]) ?_ ?_
        · refine wp_block (wp_loopM (R := (List Int) × Int) (S := Int × (List Int)) (fun s52 a w => ∃ v123 : Value, Agr 70 a [(1, va2), (2, .pointer (some ⟨g1, 0, none⟩)), (6, v91), (7, v92), (10, .pointer (some ⟨g7, 0, none⟩)), (16, va2), (17, .int .i64 (p1.length : Int)), (18, .int .i64 s37.2.2), (34, v116), (35, .int .i64 (x57.length : Int)), (36, .int .i64 s52.1)] ∧ St I w0 w [Ch.own (rSlice 3 rInt) [v123] s52.2, Ch.blk g1 [.int .i64 p0.1, va0, va1] 27, Ch.own (rSlice 34 (rSlice 3 rInt)) [v91] s37.1, Ch.own (rSlice 3 rInt) [v92] s37.2.1, Ch.blk g7 [v123] 34, F]) hl7 ?_ ?_)
          · exact ⟨v115, A409.pick' ⟨rfl, rfl, rfl, rfl, rfl, rfl, rfl, rfl, rfl, rfl, rfl, trivial⟩, St.sel S409 6 [2, 0, 3, 4, 1, 5] rfl rfl⟩
          rintro s52 o39 hm hf7 a440 w440 ⟨v123, A440, S440⟩
          unfold m_i_Automaton_refine_l1 at hm
          refine wp_seq (wp_region_lit (rn A440 S440 (sv (opT_cmp (k := .i64) (m := s52.1) (n := (x57.length : Int)) (c := decide (s52.1 < (x57.length : Int))) rfl rfl rfl rfl rfl) rfl rfl (enR (L' := [(1, va2), (2, .pointer (some ⟨g1, 0, none⟩)), (6, v91), (7, v92), (10, .pointer (some ⟨g7, 0, none⟩)), (16, va2), (17, .int .i64 (p1.length : Int)), (18, .int .i64 s37.2.2), (34, v116), (35, .int .i64 (x57.length : Int)), (36, .int .i64 s52.1), (37, .bool (decide (s52.1 < (x57.length : Int))))]) rfl ?_))))
          clear A440 S440 a440 w440;intro a441 w441 A441 S441
          refine nrm (wp_seq ?_)
          rcases two (decide (s52.1 < (x57.length : Int))) with hb71 | hb71
          · replace hm := ifFe hb71 hm
            refine cnd_false (b := decide (s52.1 < (x57.length : Int))) A441 rfl rfl hb71 ?_
            exact wp_exit (thenX (thenX (ex_in (nrm (⟨_, loopBrk hm hf7, ⟨v123, A441.pick' ⟨rfl, rfl, rfl, rfl, rfl, rfl, rfl, rfl, trivial⟩, St.sel S441 6 [0, 1, 2, 3, 4, 5] rfl rfl⟩⟩)))))
          replace hm := ifTe hb71 hm
          refine cnd_true (b := decide (s52.1 < (x57.length : Int))) A441 rfl rfl hb71 ?_
          refine wp_skip (nrm (wp_seq (wp_block (wp_seq (wp_region_lit ?_)))))
          obtain ⟨x64, e106, hm⟩ := bind_some hm
          refine rn A441 S441 (sv (opT_index_hd (xs := x57) (i := s52.1) (n := 1) (Hd.of_rd r11) Try.underlying34 ti3 rfl rfl rfl (getI_in e106)) rfl rfl (so0 (opT_load_el (S := rInt) (xs := x57) (a := x64) (i := s52.1) (k := 1) (off := 0) (f := fun (x : Int) => x) r11 e106 Fld.self ti3 rfl rfl rfl rfl rfl) rfl rfl ?_))
          rintro u a442 w442 hf A442 S442
          obtain rfl := lds_one hf
          clear A441 S441 a441 w441
          refine rn A442 S442 (sv (opT_assign (v := .int .i64 x64) rfl rfl) rfl rfl (enR (L' := [(1, va2), (2, .pointer (some ⟨g1, 0, none⟩)), (6, v91), (7, v92), (10, .pointer (some ⟨g7, 0, none⟩)), (12, .int .i64 x64), (16, va2), (17, .int .i64 (p1.length : Int)), (18, .int .i64 s37.2.2), (34, v116), (35, .int .i64 (x57.length : Int)), (36, .int .i64 s52.1)]) rfl ?_))
          clear A442 S442 a442 w442;intro a443 w443 A443 S443
          refine nrm ?_
          obtain ⟨s54, hj26, hm⟩ := bind_some hm
          refine wp_seq_cut (fun a w => Agr 70 a [(1, va2), (2, .pointer (some ⟨g1, 0, none⟩)), (6, v91), (7, v92), (10, .pointer (some ⟨g7, 0, none⟩)), (12, .int .i64 s54), (16, va2), (17, .int .i64 (p1.length : Int)), (18, .int .i64 s37.2.2), (34, v116), (35, .int .i64 (x57.length : Int)), (36, .int .i64 s52.1)] ∧ St I w0 w [Ch.blk g1 [.int .i64 p0.1, va0, va1] 27, Ch.own (rSlice 34 (rSlice 3 rInt)) [v91] s37.1, Ch.own (rSlice 3 rInt) [v92] s37.2.1, Ch.blk g7 [v123] 34, Ch.own (rSlice 3 rInt) [v123] s52.2, F]) ?_ ?_
          · replace hm := hj26
            refine wp_seq (wp_region_lit (rn A443 S443 (sv (opT_move (v := .int .i64 x64) rfl rfl) rfl rfl (sv (opT_cmp (k := .i64) (m := x64) (n := 0) (c := decide (x64 ≥ 0)) rfl rfl rfl rfl rfl) rfl rfl (enR (L' := [(1, va2), (2, .pointer (some ⟨g1, 0, none⟩)), (6, v91), (7, v92), (10, .pointer (some ⟨g7, 0, none⟩)), (12, .int .i64 x64), (16, va2), (17, .int .i64 (p1.length : Int)), (18, .int .i64 s37.2.2), (34, v116), (35, .int .i64 (x57.length : Int)), (36, .int .i64 s52.1), (41, .bool (decide (x64 ≥ 0)))]) rfl ?_)))))
            clear A443 S443 a443 w443;intro a447 w447 A447 S447
            refine nrm ?_
            rcases two (decide (x64 ≥ 0)) with hb73 | hb73
            · replace hm := ifFe hb73 hm
              refine cnd_false (b := decide (x64 ≥ 0)) A447 rfl rfl hb73 ?_
              refine wp_skip (nrm ?_)
              obtain rfl := Option.some.inj hm
              exact ⟨A447.pick' ⟨rfl, rfl, rfl, rfl, rfl, rfl, rfl, rfl, rfl, rfl, rfl, rfl, trivial⟩, St.sel S447 6 [1, 2, 3, 4, 0, 5] rfl rfl⟩
            replace hm := ifTe hb73 hm
            refine cnd_true (b := decide (x64 ≥ 0)) A447 rfl rfl hb73 ?_
            refine wp_region_lit (rn A447 S447 (sv (opT_move (v := va2) rfl rfl) rfl rfl (sv (opT_move (v := .int .i64 x64) rfl rfl) rfl rfl ?_)))
            obtain ⟨x66, e108, hm⟩ := bind_some hm
            refine sv (opT_index_hd (xs := p1) (i := x64) (n := 1) (Hd.of_rd ra2) Try.underlying34 ti3 rfl rfl rfl (getI_in e108)) rfl rfl (so0 (opT_load_el (S := rInt) (xs := p1) (a := x66) (i := x64) (k := 1) (off := 0) (f := fun (x : Int) => x) ra2 e108 Fld.self ti3 rfl rfl rfl rfl rfl) rfl rfl ?_)
            rintro u a448 w448 hf A448 S448
            obtain rfl := lds_one hf
            clear A447 S447 a447 w447
            refine rn A448 S448 (sv (opT_assign (v := .int .i64 x66) rfl rfl) rfl rfl (enR (L' := [(1, va2), (2, .pointer (some ⟨g1, 0, none⟩)), (6, v91), (7, v92), (10, .pointer (some ⟨g7, 0, none⟩)), (12, .int .i64 x66), (16, va2), (17, .int .i64 (p1.length : Int)), (18, .int .i64 s37.2.2), (34, v116), (35, .int .i64 (x57.length : Int)), (36, .int .i64 s52.1)]) rfl ?_))
            clear A448 S448 a448 w448;intro a449 w449 A449 S449
            refine nrm ?_
            obtain rfl := Option.some.inj hm
            exact ⟨A449.pick' ⟨rfl, rfl, rfl, rfl, rfl, rfl, rfl, rfl, rfl, rfl, rfl, rfl, trivial⟩, St.sel S449 6 [1, 2, 3, 4, 0, 5] rfl rfl⟩
          rintro a450 w450 ⟨A450, S450⟩
          refine wp_region_lit (rn A450 S450 (sop (opT_load_blk (g := g7) (off := 0) (E := 34) (l := [v123]) (d := [v123]) (u := v123) ti34 rfl rfl rfl rfl rfl rfl) (perm_front (i := 3) rfl) rfl rfl ?_))
          rintro u a451 w451 hf A451 (S451 : St I w0 w451 [Ch.blk g7 [v123] 34, Ch.blk g1 [.int .i64 p0.1, va0, va1] 27, Ch.own (rSlice 34 (rSlice 3 rInt)) [v91] s37.1, Ch.own (rSlice 3 rInt) [v92] s37.2.1, Ch.own (rSlice 3 rInt) [v123] s52.2, F])
          obtain rfl := Eq.symm hf
          clear A450 S450 a450 w450
          refine rn A451 S451 (sv (opT_move (v := .int .i64 s54) rfl rfl) rfl rfl (sop (opT_lit_cpy (E := 3) (R := rInt) (S := rInt) [(.int .i64 s54, [.int .i64 s54])] [s54] cpy_int (rd_all ⟨rfl, trivial⟩) Try.underlying34 tz3 (by decide) rfl (by decide) (by decide) rfl rfl rfl rfl (us_all ⟨⟨rfl, rfl⟩, trivial⟩)) (List.Perm.refl _) rfl rfl ?_))
          rintro v124 a452 w452 - A452 (S452 : St I w0 w452 [Ch.own (rSlice 3 rInt) [v124] ([s54]), Ch.blk g7 [v123] 34, Ch.blk g1 [.int .i64 p0.1, va0, va1] 27, Ch.own (rSlice 34 (rSlice 3 rInt)) [v91] s37.1, Ch.own (rSlice 3 rInt) [v92] s37.2.1, Ch.own (rSlice 3 rInt) [v123] s52.2, F])
          clear A451 S451 a451 w451
          obtain ⟨z38, e109, hm⟩ := bind_some hm
          refine rn A452 S452 (sop (opT_app (E := 3) (R := rInt) (s := v123) (u := v124) e109 Try.underlying34 tz3 rfl (by decide) rfl (by decide) rfl rfl rfl) (perm_sel [5, 0, 1, 2, 3, 4, 6] (m := 7) rfl rfl) rfl rfl ?_)
          rintro v125 a453 w453 - A453 (S453 : St I w0 w453 [Ch.own (rSlice 3 rInt) [v125] z38, Ch.blk g7 [v123] 34, Ch.blk g1 [.int .i64 p0.1, va0, va1] 27, Ch.own (rSlice 34 (rSlice 3 rInt)) [v91] s37.1, Ch.own (rSlice 3 rInt) [v92] s37.2.1, F])
          clear A452 S452 a452 w452
          refine rn A453 S453 (sop (opT_store_blk (g := g7) (off := 0) (l := [v123]) (d := [v125]) (E := 34) (u := v125) ti34 rfl rfl rfl (Hd.cells (St.hd S453 0 rfl).1) rfl (allC (Hd.one (St.hd S453 0 rfl).1) allN) (Nat.le_of_ble_eq_true rfl)) (perm_front (i := 1) rfl) rfl rfl ?_)
          rintro _ a454 w454 - A454 (S454 : St I w0 w454 [Ch.blk g7 [v125] 34, Ch.own (rSlice 3 rInt) [v125] z38, Ch.blk g1 [.int .i64 p0.1, va0, va1] 27, Ch.own (rSlice 34 (rSlice 3 rInt)) [v91] s37.1, Ch.own (rSlice 3 rInt) [v92] s37.2.1, F])
          clear A453 S453 a453 w453
          replace A454 := A454.pk (L' := [(1, va2), (2, .pointer (some ⟨g1, 0, none⟩)), (6, v91), (7, v92), (10, .pointer (some ⟨g7, 0, none⟩)), (16, va2), (17, .int .i64 (p1.length : Int)), (18, .int .i64 s37.2.2), (34, v116), (35, .int .i64 (x57.length : Int)), (36, .int .i64 s52.1)]) rfl
          refine wpList_nil (nrmB (nrm (wp_region_lit (rn A454 S454 (sv (opT_add (m := s52.1) (n := 1) rfl rfl rfl) rfl rfl (sv (opT_move (v := .int .i64 (IntKind.i64.wrap (s52.1 + 1))) rfl rfl) rfl rfl (enR (L' := [(1, va2), (2, .pointer (some ⟨g1, 0, none⟩)), (6, v91), (7, v92), (10, .pointer (some ⟨g7, 0, none⟩)), (16, va2), (17, .int .i64 (p1.length : Int)), (18, .int .i64 s37.2.2), (34, v116), (35, .int .i64 (x57.length : Int)), (36, .int .i64 (IntKind.i64.wrap (s52.1 + 1)))]) rfl ?_)))))))
          clear A454 S454 a454 w454;intro a455 w455 A455 S455
          exact nrm (⟨_, (Option.some.inj hm).symm, ⟨v125, A455.pick' ⟨rfl, rfl, rfl, rfl, rfl, rfl, rfl, rfl, rfl, rfl, rfl, trivial⟩, St.sel S455 6 [1, 2, 3, 4, 0, 5] rfl rfl⟩⟩)
        rintro a456 w456 ⟨s53, ho31, v122, A456, S456⟩
        replace hm := loopOut ho31 hc32
        clear ho31 hc32 hl7
        refine nrm (wp_seq (wp_region_lit (rn A456 S456 (sv (opT_move (v := v91) rfl rfl) rfl rfl (sv (opT_make_func (v := .func (.func 173) #[] #[.pointer (some ⟨g7, 0, none⟩)]) rfl rfl) rfl rfl ?_)))))
        obtain ⟨r12, e110, hm⟩ := bind_some hm
        refine sop (OpT.lend (ls := [Ch.own (rSlice 34 (rSlice 3 rInt)) [v91] s37.1, Ch.blk g7 [v122] 34, Ch.own (rSlice 3 rInt) [v122] s53.2]) (gv := fun v => []) (fun _ => trivial) fun J hJ hl hb => opT_call (args := #[v91, .func (.func 173) #[] #[.pointer (some ⟨g7, 0, none⟩)]]) (first := #[]) (captured := #[]) en172 rfl rfl rfl (c_g_slices_IndexFunc_S_S_int_S_int s37.1 (fun a0 => m_i_Automaton_refine_1 a0 s53.2) _ e110 v91 (.func (.func 173) #[] #[.pointer (some ⟨g7, 0, none⟩)]) (hl _ _ _ (List.Mem.head _)) ⟨isFn, fun J6 hJ6 b6_0 r hm k6_0 l6_0 => ⟨173, #[], #[.pointer (some ⟨g7, 0, none⟩)], rfl, en173, c_i_Automaton_refine_1 b6_0 s53.2 _ hm k6_0 g7 v122 l6_0 (hJ6 _ _ (hb _ _ _ (List.Mem.tail _ (List.Mem.head _)))) (Rep.rd_mono _ (hl _ _ _ (List.Mem.tail _ (List.Mem.tail _ (List.Mem.head _)))) hJ6)⟩⟩)) (perm_sel [2, 4, 0, 1, 3, 5] (m := 6) rfl rfl) rfl rfl ?_
        rintro u a457 w457 hf A457 (S457 : St I w0 w457 [Ch.own (rSlice 34 (rSlice 3 rInt)) [v91] s37.1, Ch.blk g7 [v122] 34, Ch.own (rSlice 3 rInt) [v122] s53.2, Ch.blk g1 [.int .i64 p0.1, va0, va1] 27, Ch.own (rSlice 3 rInt) [v92] s37.2.1, F])
        obtain rfl := Eq.symm hf
        clear A456 S456 a456 w456
        refine rn A457 S457 (sv (opT_assign (v := .int .i64 r12) rfl rfl) rfl rfl (enR (L' := [(1, va2), (2, .pointer (some ⟨g1, 0, none⟩)), (6, v91), (7, v92), (10, .pointer (some ⟨g7, 0, none⟩)), (13, .int .i64 r12), (16, va2), (17, .int .i64 (p1.length : Int)), (18, .int .i64 s37.2.2)]) rfl ?_))
        clear A457 S457 a457 w457;intro a458 w458 A458 S458
        refine nrm ?_
        obtain ⟨s55, hj27, hm⟩ := bind_some hm
        refine wp_seq_cut (fun a w => ∃ v128 : Value, Agr 70 a [(1, va2), (2, .pointer (some ⟨g1, 0, none⟩)), (6, v128), (7, v92), (13, .int .i64 s55.2), (16, va2), (17, .int .i64 (p1.length : Int)), (18, .int .i64 s37.2.2)] ∧ St I w0 w [Ch.own (rSlice 34 (rSlice 3 rInt)) [v128] s55.1, Ch.blk g1 [.int .i64 p0.1, va0, va1] 27, Ch.own (rSlice 3 rInt) [v92] s37.2.1, F]) ?_ ?_
        · replace hm := hj27
          refine wp_seq (wp_region_lit (rn A458 S458 (sv (opT_move (v := .int .i64 r12) rfl rfl) rfl rfl (sv (opT_cmp (k := .i64) (m := r12) (n := 0) (c := decide (r12 < 0)) rfl rfl rfl rfl rfl) rfl rfl (enR (L' := [(1, va2), (2, .pointer (some ⟨g1, 0, none⟩)), (6, v91), (7, v92), (10, .pointer (some ⟨g7, 0, none⟩)), (13, .int .i64 r12), (16, va2), (17, .int .i64 (p1.length : Int)), (18, .int .i64 s37.2.2), (55, .bool (decide (r12 < 0)))]) rfl ?_)))))
          clear A458 S458 a458 w458;intro a465 w465 A465 S465
          refine nrm ?_
          rcases two (decide (r12 < 0)) with hb75 | hb75
          · replace hm := ifFe hb75 hm
            refine cnd_false (b := decide (r12 < 0)) A465 rfl rfl hb75 ?_
            refine wp_skip (nrm ?_)
            obtain rfl := Option.some.inj hm
            exact ⟨v91, A465.pick' ⟨rfl, rfl, rfl, rfl, rfl, rfl, rfl, rfl, trivial⟩, St.sel S465 6 [0, 3, 4, 5] rfl rfl⟩
          replace hm := ifTe hb75 hm
          refine cnd_true (b := decide (r12 < 0)) A465 rfl rfl hb75 ?_
          refine wp_seq (wp_region_lit (rn A465 S465 (sv (opT_move (v := v91) rfl rfl) rfl rfl (sv (opT_len_hd (v := v91) (n := s37.1.length) (St.hd S465 0 rfl).1 Try.underlying23 rfl rfl) rfl rfl (sv (opT_assign (v := .int .i64 (s37.1.length : Int)) rfl rfl) rfl rfl (enR (L' := [(1, va2), (2, .pointer (some ⟨g1, 0, none⟩)), (6, v91), (7, v92), (10, .pointer (some ⟨g7, 0, none⟩)), (13, .int .i64 (s37.1.length : Int)), (16, va2), (17, .int .i64 (p1.length : Int)), (18, .int .i64 s37.2.2)]) rfl ?_))))))
          clear A465 S465 a465 w465;intro a466 w466 A466 S466
          refine nrm (wp_region_lit (rn A466 S466 (sv (opT_move (v := v91) rfl rfl) rfl rfl (sop (opT_load_blk (g := g7) (off := 0) (E := 34) (l := [v122]) (d := [v122]) (u := v122) ti34 rfl rfl rfl rfl rfl rfl) (perm_front (i := 1) rfl) rfl rfl ?_))))
          rintro u a467 w467 hf A467 (S467 : St I w0 w467 [Ch.blk g7 [v122] 34, Ch.own (rSlice 34 (rSlice 3 rInt)) [v91] s37.1, Ch.own (rSlice 3 rInt) [v122] s53.2, Ch.blk g1 [.int .i64 p0.1, va0, va1] 27, Ch.own (rSlice 3 rInt) [v92] s37.2.1, F])
          obtain rfl := Eq.symm hf
          clear A466 S466 a466 w466
          refine rn A467 S467 (sop (opT_lit (E := 34) (R := rSlice 3 rInt) [(v122, [v122])] [s53.2] Try.underlying23 tz34 (by decide) rfl (by decide) (by decide) rfl rfl rfl rfl (us_all ⟨⟨(Hd.cells (St.hd S467 2 rfl).1), rfl⟩, trivial⟩)) (perm_front (i := 2) rfl) rfl rfl ?_)
          rintro v129 a468 w468 - A468 (S468 : St I w0 w468 [Ch.own (rSlice 34 (rSlice 3 rInt)) [v129] ([s53.2]), Ch.blk g7 [v122] 34, Ch.own (rSlice 34 (rSlice 3 rInt)) [v91] s37.1, Ch.blk g1 [.int .i64 p0.1, va0, va1] 27, Ch.own (rSlice 3 rInt) [v92] s37.2.1, F])
          clear A467 S467 a467 w467
          obtain ⟨z40, e112, hm⟩ := bind_some hm
          refine rn A468 S468 (sop (opT_app (E := 34) (R := rSlice 3 rInt) (s := v91) (u := v129) e112 Try.underlying23 tz34 rfl (by decide) rfl (by decide) rfl rfl rfl) (perm_sel [2, 0, 1, 3, 4, 5] (m := 6) rfl rfl) rfl rfl ?_)
          rintro v130 a469 w469 - A469 (S469 : St I w0 w469 [Ch.own (rSlice 34 (rSlice 3 rInt)) [v130] z40, Ch.blk g7 [v122] 34, Ch.blk g1 [.int .i64 p0.1, va0, va1] 27, Ch.own (rSlice 3 rInt) [v92] s37.2.1, F])
          clear A468 S468 a468 w468
          refine rn A469 S469 (sv (opT_assign (v := v130) rfl rfl) rfl rfl (enR (L' := [(1, va2), (2, .pointer (some ⟨g1, 0, none⟩)), (6, v130), (7, v92), (13, .int .i64 (s37.1.length : Int)), (16, va2), (17, .int .i64 (p1.length : Int)), (18, .int .i64 s37.2.2)]) rfl ?_))
          clear A469 S469 a469 w469;intro a470 w470 A470 S470
          refine nrm ?_
          obtain rfl := Option.some.inj hm
          exact ⟨v130, A470.pick' ⟨rfl, rfl, rfl, rfl, rfl, rfl, rfl, rfl, trivial⟩, St.sel S470 5 [0, 2, 3, 4] rfl rfl⟩
        rintro a471 w471 ⟨v128, A471, S471⟩
        refine wp_region_lit (rn A471 S471 (sv (opT_move (v := v92) rfl rfl) rfl rfl (sv (opT_move (v := .int .i64 s55.2) rfl rfl) rfl rfl (sop (opT_lit_cpy (E := 3) (R := rInt) (S := rInt) [(.int .i64 s55.2, [.int .i64 s55.2])] [s55.2] cpy_int (rd_all ⟨rfl, trivial⟩) Try.underlying34 tz3 (by decide) rfl (by decide) (by decide) rfl rfl rfl rfl (us_all ⟨⟨rfl, rfl⟩, trivial⟩)) (List.Perm.refl _) rfl rfl ?_))))
        rintro v131 a472 w472 - A472 (S472 : St I w0 w472 [Ch.own (rSlice 3 rInt) [v131] ([s55.2]), Ch.own (rSlice 34 (rSlice 3 rInt)) [v128] s55.1, Ch.blk g1 [.int .i64 p0.1, va0, va1] 27, Ch.own (rSlice 3 rInt) [v92] s37.2.1, F])
        clear A471 S471 a471 w471
        obtain ⟨z41, e113, hm⟩ := bind_some hm
        refine rn A472 S472 (sop (opT_app (E := 3) (R := rInt) (s := v92) (u := v131) e113 Try.underlying34 tz3 rfl (by decide) rfl (by decide) rfl rfl rfl) (perm_sel [3, 0, 1, 2, 4] (m := 5) rfl rfl) rfl rfl ?_)
        rintro v132 a473 w473 - A473 (S473 : St I w0 w473 [Ch.own (rSlice 3 rInt) [v132] z41, Ch.own (rSlice 34 (rSlice 3 rInt)) [v128] s55.1, Ch.blk g1 [.int .i64 p0.1, va0, va1] 27, F])
        clear A472 S472 a472 w472
        refine rn A473 S473 (sv (opT_assign (v := v132) rfl rfl) rfl rfl (enR (L' := [(1, va2), (2, .pointer (some ⟨g1, 0, none⟩)), (6, v128), (7, v132), (16, va2), (17, .int .i64 (p1.length : Int)), (18, .int .i64 s37.2.2)]) rfl ?_))
        clear A473 S473 a473 w473;intro a474 w474 A474 S474
        refine nrmB (nrm ?_)
        obtain rfl := Option.some.inj hm
        exact ⟨v128, v132, A474.pick' ⟨rfl, rfl, rfl, rfl, rfl, rfl, rfl, trivial⟩, St.sel S474 4 [1, 0, 2, 3] rfl rfl⟩
      replace hm := ifTe hb64 hm
      refine cnd_true (b := decide (x56 < 0)) A403 rfl rfl hb64 ?_
      refine wp_seq (wp_region_lit (rn A403 S403 (sv (opT_move (v := v92) rfl rfl) rfl rfl (sop (opT_lit_cpy (E := 3) (R := rInt) (S := rInt) [(.int .i64 (-1), [.int .i64 (-1)])] [-1] cpy_int (rd_all ⟨rfl, trivial⟩) Try.underlying34 tz3 (by decide) rfl (by decide) (by decide) rfl rfl rfl rfl (us_all ⟨⟨rfl, rfl⟩, trivial⟩)) (List.Perm.refl _) rfl rfl ?_))))
      rintro v133 a475 w475 - A475 (S475 : St I w0 w475 [Ch.own (rSlice 3 rInt) [v133] ([-1]), Ch.own (rSlice 34 (rSlice 3 rInt)) [v91] s37.1, Ch.own (rSlice 3 rInt) [v92] s37.2.1, Ch.blk g1 [.int .i64 p0.1, va0, va1] 27, F])
      clear A403 S403 a403 w403
      obtain ⟨z42, e114, hm⟩ := bind_some hm
      refine rn A475 S475 (sop (opT_app (E := 3) (R := rInt) (s := v92) (u := v133) e114 Try.underlying34 tz3 rfl (by decide) rfl (by decide) rfl rfl rfl) (perm_sel [2, 0, 1, 3, 4] (m := 5) rfl rfl) rfl rfl ?_)
      rintro v134 a476 w476 - A476 (S476 : St I w0 w476 [Ch.own (rSlice 3 rInt) [v134] z42, Ch.own (rSlice 34 (rSlice 3 rInt)) [v91] s37.1, Ch.blk g1 [.int .i64 p0.1, va0, va1] 27, F])
      clear A475 S475 a475 w475
      refine rn A476 S476 (sv (opT_assign (v := v134) rfl rfl) rfl rfl (enR (L' := [(1, va2), (2, .pointer (some ⟨g1, 0, none⟩)), (6, v91), (7, v134), (16, va2), (17, .int .i64 (p1.length : Int)), (18, .int .i64 s37.2.2)]) rfl ?_))
      clear A476 S476 a476 w476;intro a477 w477 A477 S477
      refine nrm (wp_exit (thenX (ex_in (nrm ?_))))
      obtain rfl := Option.some.inj hm
      exact ⟨v91, v134, A477.pick' ⟨rfl, rfl, rfl, rfl, rfl, rfl, rfl, trivial⟩, St.sel S477 4 [1, 0, 2, 3] rfl rfl⟩
    rintro a478 w478 ⟨v113, v114, A478, S478⟩
    refine wp_region_lit (rn A478 S478 (sv (opT_add (m := s37.2.2) (n := 1) rfl rfl rfl) rfl rfl (sv (opT_move (v := .int .i64 (IntKind.i64.wrap (s37.2.2 + 1))) rfl rfl) rfl rfl (enR (L' := [(1, va2), (2, .pointer (some ⟨g1, 0, none⟩)), (6, v113), (7, v114), (16, va2), (17, .int .i64 (p1.length : Int)), (18, .int .i64 (IntKind.i64.wrap (s37.2.2 + 1)))]) rfl ?_))))
    clear A478 S478 a478 w478;intro a479 w479 A479 S479
    exact nrm (⟨_, (Option.some.inj hm).symm, ⟨v113, v114, A479.pick' ⟨rfl, rfl, rfl, rfl, rfl, rfl, rfl, trivial⟩, St.sel S479 4 [0, 1, 2, 3] rfl rfl⟩⟩)
  rintro a480 w480 ⟨s38, ho34, v89, v90, A480, S480⟩
  replace hm := loopOut ho34 hc23
  clear ho34 hc23 hl5
  refine nrm (wp_seq (wp_region_lit (rn A480 S480 (sv (opT_move (v := v90) rfl rfl) rfl rfl (sv (opT_move (v := v89) rfl rfl) rfl rfl (sv (opT_len_hd (v := v89) (n := s38.1.length) (St.hd S480 0 rfl).1 Try.underlying23 rfl rfl) rfl rfl (sv (opT_assign (v := v90) rfl rfl) rfl rfl (sv (opT_assign (v := .int .i64 (s38.1.length : Int)) rfl rfl) rfl rfl (enR (L' := [(4, v90), (5, .int .i64 (s38.1.length : Int))]) rfl ?_)))))))))
  clear A480 S480 a480 w480;intro a481 w481 A481 S481
  refine nrm (wp_ret ?_)
  obtain rfl := Option.some.inj hm
  exact ret_2 A481 rfl (res_tmp A481 rfl) (res_tmp A481 rfl) ⟨_, rfl, ⟨_, rfl⟩, _, Hp.le.rfl, St.sel (S481) 3 [1, 2] rfl rfl⟩
end Go.Proofs.Ytcihbmdppgpmjaa.D
