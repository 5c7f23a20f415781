/- Printed by dec.py: models of functions and the walks that show them. -/
import Derived.Test.YtcihbmdppgpmjaaCw1_3
import Derived.Test.YtcihbmdppgpmjaaCw2_0
set_option linter.unusedVariables false
set_option linter.unusedSimpArgs false
set_option linter.unnecessarySimpa false
set_option maxRecDepth 100000
set_option maxHeartbeats 8000000
namespace Go.Proofs.Ytcihbmdppgpmjaa.D
open Go.RowKit
theorem c_i_Automaton_classes (p0a : Int × (List Bool) × (List (List Int))) (r : List Int) (hm : m_i_Automaton_classes p0a = some r) {I : Hp} {w0 : World} (va0 : Value) (va1 : Value) (ra0 : (rSlice 4 rBool).rd I [va0] p0a.2.1) (ra1 : (rSlice 34 (rSlice 3 rInt)).rd I [va1] p0a.2.2) : Con Try.prog 110 #[.agg #[.int .i64 p0a.1, va0, va1]] I w0 [] (fun v => True) (fun v => [Ch.own (rSlice 3 rInt) [v] r]) := by
  refine con_of_wp (n := 49) [(0, .agg #[.int .i64 p0a.1, va0, va1])] Try.func110 rfl rfl (Nat.le_of_ble_eq_true rfl) (args_all ⟨rfl, trivial⟩) (fun F w a ha hs => ?_) (fun v => ⟨dp_own (dp_slice dp_int), trivial⟩)
  unfold m_i_Automaton_classes at hm
  refine wp_seq (wp_region_lit (rn ha hs (sop (opT_box (u := .agg #[.int .i64 p0a.1, va0, va1]) (l := [.int .i64 p0a.1, va0, va1]) rfl rfl rfl) (List.Perm.refl _) rfl rfl ?_)))
  rintro _ a1 w1 ⟨g1, rfl⟩ A1 (S1 : St I w0 w1 [Ch.blk g1 [.int .i64 p0a.1, va0, va1] 27, F])
  clear ha hs a w
  refine rn A1 S1 (sv (opT_assign (v := .slice none 0 0) rfl rfl) rfl rfl (enR (L' := [(1, .pointer (some ⟨g1, 0, none⟩))]) rfl ?_))
  clear A1 S1 a1 w1;intro a2 w2 A2 S2
  refine nrm (wp_seq (wp_region_lit (rn A2 S2 (sop (opT_lit0 (E := 3) (R := rInt) Try.underlying34 ti3 rfl) (List.Perm.refl _) rfl rfl ?_))))
  rintro v1 a3 w3 - A3 (S3 : St I w0 w3 [Ch.own (rSlice 3 rInt) [v1] ([] : List Int), Ch.blk g1 [.int .i64 p0a.1, va0, va1] 27, F])
  clear A2 S2 a2 w2
  refine rn A3 S3 (sv (opT_assign (v := v1) rfl rfl) rfl rfl (enR (L' := [(1, .pointer (some ⟨g1, 0, none⟩)), (3, v1)]) rfl ?_))
  clear A3 S3 a3 w3;intro a4 w4 A4 S4
  refine nrm (wp_seq (wp_seq (wp_region_lit (rn A4 S4 (sop (opT_load_blk (g := g1) (off := 0) (E := 27) (l := [.int .i64 p0a.1, va0, va1]) (d := [.int .i64 p0a.1, va0, va1]) (u := .agg #[.int .i64 p0a.1, va0, va1]) ti27 rfl rfl rfl rfl rfl rfl) (perm_front (i := 1) rfl) rfl rfl ?_)))))
  rintro u a5 w5 hf A5 (S5 : St I w0 w5 [Ch.blk g1 [.int .i64 p0a.1, va0, va1] 27, Ch.own (rSlice 3 rInt) [v1] ([] : List Int), F])
  obtain rfl := Eq.symm hf
  clear A4 S4 a4 w4
  obtain ⟨r1, e1, hm⟩ := bind_some hm
  refine rn A5 S5 (sop (opT_call (args := #[.agg #[.int .i64 p0a.1, va0, va1]]) (first := #[]) (captured := #[]) en96 rfl rfl rfl (c_i_Automaton_live (p0a.1, p0a.2.1, p0a.2.2) _ e1 va0 va1 ra0 ra1)) (List.Perm.refl _) rfl rfl ?_)
  rintro v2 a6 w6 - A6 (S6 : St I w0 w6 [Ch.own (rSlice 4 rBool) [v2] r1, Ch.blk g1 [.int .i64 p0a.1, va0, va1] 27, Ch.own (rSlice 3 rInt) [v1] ([] : List Int), F])
  clear A5 S5 a5 w5
  refine rn A6 S6 (sv (opT_len_hd (v := v2) (n := r1.length) (St.hd S6 0 rfl).1 Try.underlying22 rfl rfl) rfl rfl (sv (opT_move (v := .int .i64 0) rfl rfl) rfl rfl (enR (L' := [(1, .pointer (some ⟨g1, 0, none⟩)), (3, v1), (11, v2), (12, .int .i64 (r1.length : Int)), (13, .int .i64 0)]) rfl ?_)))
  clear A6 S6 a6 w6;intro a7 w7 A7 S7
  refine nrm ?_
  obtain ⟨o3, hl1, hc3⟩ := bindL_some hm
  refine wp_cut (fun a w => ∃ s6 : (List Int) × Int, o3 = .brk s6 ∧ ∃ v30 : Value, Agr 49 a [(1, .pointer (some ⟨g1, 0, none⟩)), (3, v30)] ∧ St I w0 w [Ch.own (rSlice 3 rInt) [v30] s6.1, Ch.blk g1 [.int .i64 p0a.1, va0, va1] 27, F]) ?_ ?_
  · refine wp_block (wp_loopM (R := List Int) (S := (List Int) × Int) (fun s5 a w => ∃ v31 : Value, Agr 49 a [(1, .pointer (some ⟨g1, 0, none⟩)), (3, v31), (11, v2), (12, .int .i64 (r1.length : Int)), (13, .int .i64 s5.2)] ∧ St I w0 w [Ch.own (rSlice 3 rInt) [v31] s5.1, Ch.blk g1 [.int .i64 p0a.1, va0, va1] 27, Ch.own (rSlice 4 rBool) [v2] r1, F]) hl1 ?_ ?_)
    · exact ⟨v1, A7.pick' ⟨rfl, rfl, rfl, rfl, rfl, trivial⟩, St.sel S7 4 [2, 1, 0, 3] rfl rfl⟩
    rintro s5 o4 hm hf1 a74 w74 ⟨v31, A74, S74⟩
    unfold m_i_Automaton_classes_l0 at hm
    refine wp_seq (wp_region_lit (rn A74 S74 (sv (opT_cmp (k := .i64) (m := s5.2) (n := (r1.length : Int)) (c := decide (s5.2 < (r1.length : Int))) rfl rfl rfl rfl rfl) rfl rfl (enR (L' := [(1, .pointer (some ⟨g1, 0, none⟩)), (3, v31), (11, v2), (12, .int .i64 (r1.length : Int)), (13, .int .i64 s5.2), (14, .bool (decide (s5.2 < (r1.length : Int))))]) rfl ?_))))
    clear A74 S74 a74 w74;intro a75 w75 A75 S75
    refine nrm (wp_seq ?_)
    rcases two (decide (s5.2 < (r1.length : Int))) with hb11 | hb11
    · replace hm := ifFe hb11 hm
      refine cnd_false (b := decide (s5.2 < (r1.length : Int))) A75 rfl rfl hb11 ?_
      exact wp_exit (thenX (thenX (ex_in (nrm (⟨_, loopBrk hm hf1, ⟨v31, A75.pick' ⟨rfl, rfl, trivial⟩, St.sel S75 4 [0, 1, 3] rfl rfl⟩⟩)))))
    replace hm := ifTe hb11 hm
    refine cnd_true (b := decide (s5.2 < (r1.length : Int))) A75 rfl rfl hb11 ?_
    refine wp_skip (nrm ?_)
    obtain ⟨s7, hj3, hm⟩ := bind_some hm
    refine wp_seq_cut (fun a w => ∃ v38 : Value, Agr 49 a [(1, .pointer (some ⟨g1, 0, none⟩)), (3, v38), (11, v2), (12, .int .i64 (r1.length : Int)), (13, .int .i64 s5.2)] ∧ St I w0 w [Ch.own (rSlice 3 rInt) [v38] s7, Ch.blk g1 [.int .i64 p0a.1, va0, va1] 27, Ch.own (rSlice 4 rBool) [v2] r1, F]) ?_ ?_
    · replace hm := hj3
      refine wp_block (wp_seq (wp_region_lit (rn A75 S75 (sv (opT_move (v := .int .i64 s5.2) rfl rfl) rfl rfl ?_))))
      obtain ⟨x11, e27, hm⟩ := bind_some hm
      refine sv (opT_index_hd (xs := r1) (i := s5.2) (n := 1) (St.hd S75 2 rfl).1 Try.underlying22 ti4 rfl rfl rfl (getI_in e27)) rfl rfl (sop (opT_load_own (E := 4) (R := rBool) (S := rBool) (xs := r1) (a := x11) (i := s5.2) (k := 1) (off := 0) (f := fun (x : Bool) => x) sh_bool e27 Fld.self ti4 rfl rfl rfl rfl rfl) (perm_front (i := 2) rfl) rfl rfl ?_)
      rintro u a91 w91 hf A91 (S91 : St I w0 w91 [Ch.own (rSlice 4 rBool) [v2] r1, Ch.own (rSlice 3 rInt) [v31] s5.1, Ch.blk g1 [.int .i64 p0a.1, va0, va1] 27, F])
      obtain rfl := lds_one hf
      clear A75 S75 a75 w75
      refine rn A91 S91 (sv (opT_assign (v := .int .i64 s5.2) rfl rfl) rfl rfl (sv (opT_assign (v := .bool x11) rfl rfl) rfl rfl (enR (L' := [(1, .pointer (some ⟨g1, 0, none⟩)), (3, v31), (4, .int .i64 s5.2), (5, .bool x11), (11, v2), (12, .int .i64 (r1.length : Int)), (13, .int .i64 s5.2)]) rfl ?_)))
      clear A91 S91 a91 w91;intro a92 w92 A92 S92
      refine nrm (wp_block (wp_seq (wp_region_lit (rn A92 S92 (sv (opT_move (v := .bool x11) rfl rfl) rfl rfl (sv (opT_not (b := x11) rfl rfl) rfl rfl (sv (opT_assign (v := .bool (!x11)) rfl rfl) rfl rfl (enR (L' := [(1, .pointer (some ⟨g1, 0, none⟩)), (3, v31), (4, .int .i64 s5.2), (11, v2), (12, .int .i64 (r1.length : Int)), (13, .int .i64 s5.2), (21, .bool (!x11))]) rfl ?_))))))))
      clear A92 S92 a92 w92;intro a93 w93 A93 S93
      refine nrm ?_
      rcases two (x11) with hb14 | hb14
      · replace hm := ifFe hb14 hm
        refine cnd_true (b := !x11) A93 rfl rfl (notT hb14) ?_
        refine wp_region_lit (rn A93 S93 (sv (opT_move (v := v31) rfl rfl) rfl rfl (sop (opT_lit_cpy (E := 3) (R := rInt) (S := rInt) [(.int .i64 (-1), [.int .i64 (-1)])] [-1] cpy_int (rd_all ⟨rfl, trivial⟩) Try.underlying34 tz3 (by decide) rfl (by decide) (by decide) rfl rfl rfl rfl (us_all ⟨⟨rfl, rfl⟩, trivial⟩)) (List.Perm.refl _) rfl rfl ?_)))
        rintro v39 a94 w94 - A94 (S94 : St I w0 w94 [Ch.own (rSlice 3 rInt) [v39] ([-1]), Ch.own (rSlice 4 rBool) [v2] r1, Ch.own (rSlice 3 rInt) [v31] s5.1, Ch.blk g1 [.int .i64 p0a.1, va0, va1] 27, F])
        clear A93 S93 a93 w93
        obtain ⟨z16, e28, hm⟩ := bind_some hm
        refine rn A94 S94 (sop (opT_app (E := 3) (R := rInt) (s := v31) (u := v39) e28 Try.underlying34 tz3 rfl (by decide) rfl (by decide) rfl rfl rfl) (perm_sel [2, 0, 1, 3, 4] (m := 5) rfl rfl) rfl rfl ?_)
        rintro v40 a95 w95 - A95 (S95 : St I w0 w95 [Ch.own (rSlice 3 rInt) [v40] z16, Ch.own (rSlice 4 rBool) [v2] r1, Ch.blk g1 [.int .i64 p0a.1, va0, va1] 27, F])
        clear A94 S94 a94 w94
        refine rn A95 S95 (sv (opT_assign (v := v40) rfl rfl) rfl rfl (enR (L' := [(1, .pointer (some ⟨g1, 0, none⟩)), (3, v40), (11, v2), (12, .int .i64 (r1.length : Int)), (13, .int .i64 s5.2)]) rfl ?_))
        clear A95 S95 a95 w95;intro a96 w96 A96 S96
        refine nrmB (nrmB (nrm ?_))
        obtain rfl := Option.some.inj hm
        exact ⟨v40, A96.pick' ⟨rfl, rfl, rfl, rfl, rfl, trivial⟩, St.sel S96 4 [0, 2, 1, 3] rfl rfl⟩
      replace hm := ifTe hb14 hm
      refine cnd_false (b := !x11) A93 rfl rfl (notF hb14) ?_
      refine wp_seq (wp_region_lit (rn A93 S93 (sv (opT_field_addr (g := g1) (b := 0) tf27_1 rfl rfl) rfl rfl (sop (opT_load_blk (g := g1) (off := 1) (E := 27) (l := [.int .i64 p0a.1, va0, va1]) (d := [va0]) (u := va0) ti22 rfl rfl rfl rfl rfl rfl) (perm_front (i := 2) rfl) rfl rfl ?_))))
      rintro u a97 w97 hf A97 (S97 : St I w0 w97 [Ch.blk g1 [.int .i64 p0a.1, va0, va1] 27, Ch.own (rSlice 4 rBool) [v2] r1, Ch.own (rSlice 3 rInt) [v31] s5.1, F])
      obtain rfl := Eq.symm hf
      clear A93 S93 a93 w93
      refine rn A97 S97 (sv (opT_move (v := .int .i64 s5.2) rfl rfl) rfl rfl ?_)
      obtain ⟨x12, e29, hm⟩ := bind_some hm
      refine sv (opT_index_hd (xs := p0a.2.1) (i := s5.2) (n := 1) (Hd.of_rd ra0) Try.underlying22 ti4 rfl rfl rfl (getI_in e29)) rfl rfl (so0 (opT_load_el (S := rBool) (xs := p0a.2.1) (a := x12) (i := s5.2) (k := 1) (off := 0) (f := fun (x : Bool) => x) ra0 e29 Fld.self ti4 rfl rfl rfl rfl rfl) rfl rfl ?_)
      rintro u a98 w98 hf A98 S98
      obtain rfl := lds_one hf
      clear A97 S97 a97 w97
      refine rn A98 S98 (sv (opT_assign (v := .bool x12) rfl rfl) rfl rfl (enR (L' := [(1, .pointer (some ⟨g1, 0, none⟩)), (3, v31), (11, v2), (12, .int .i64 (r1.length : Int)), (13, .int .i64 s5.2), (27, .bool x12)]) rfl ?_))
      clear A98 S98 a98 w98;intro a99 w99 A99 S99
      refine nrm ?_
      rcases two (x12) with hb15 | hb15
      · replace hm := ifFe hb15 hm
        refine cnd_false (b := x12) A99 rfl rfl hb15 ?_
        refine wp_region_lit (rn A99 S99 (sv (opT_move (v := v31) rfl rfl) rfl rfl (sop (opT_lit_cpy (E := 3) (R := rInt) (S := rInt) [(.int .i64 0, [.int .i64 0])] [0] cpy_int (rd_all ⟨rfl, trivial⟩) Try.underlying34 tz3 (by decide) rfl (by decide) (by decide) rfl rfl rfl rfl (us_all ⟨⟨rfl, rfl⟩, trivial⟩)) (List.Perm.refl _) rfl rfl ?_)))
        rintro v41 a100 w100 - A100 (S100 : St I w0 w100 [Ch.own (rSlice 3 rInt) [v41] ([0]), Ch.blk g1 [.int .i64 p0a.1, va0, va1] 27, Ch.own (rSlice 4 rBool) [v2] r1, Ch.own (rSlice 3 rInt) [v31] s5.1, F])
        clear A99 S99 a99 w99
        obtain ⟨z17, e30, hm⟩ := bind_some hm
        refine rn A100 S100 (sop (opT_app (E := 3) (R := rInt) (s := v31) (u := v41) e30 Try.underlying34 tz3 rfl (by decide) rfl (by decide) rfl rfl rfl) (perm_sel [3, 0, 1, 2, 4] (m := 5) rfl rfl) rfl rfl ?_)
        rintro v42 a101 w101 - A101 (S101 : St I w0 w101 [Ch.own (rSlice 3 rInt) [v42] z17, Ch.blk g1 [.int .i64 p0a.1, va0, va1] 27, Ch.own (rSlice 4 rBool) [v2] r1, F])
        clear A100 S100 a100 w100
        refine rn A101 S101 (sv (opT_assign (v := v42) rfl rfl) rfl rfl (enR (L' := [(1, .pointer (some ⟨g1, 0, none⟩)), (3, v42), (11, v2), (12, .int .i64 (r1.length : Int)), (13, .int .i64 s5.2)]) rfl ?_))
        clear A101 S101 a101 w101;intro a102 w102 A102 S102
        refine nrmB (nrmB (nrm ?_))
        obtain rfl := Option.some.inj hm
        exact ⟨v42, A102.pick' ⟨rfl, rfl, rfl, rfl, rfl, trivial⟩, St.sel S102 4 [0, 1, 2, 3] rfl rfl⟩
      replace hm := ifTe hb15 hm
      refine cnd_true (b := x12) A99 rfl rfl hb15 ?_
      refine wp_region_lit (rn A99 S99 (sv (opT_move (v := v31) rfl rfl) rfl rfl (sop (opT_lit_cpy (E := 3) (R := rInt) (S := rInt) [(.int .i64 1, [.int .i64 1])] [1] cpy_int (rd_all ⟨rfl, trivial⟩) Try.underlying34 tz3 (by decide) rfl (by decide) (by decide) rfl rfl rfl rfl (us_all ⟨⟨rfl, rfl⟩, trivial⟩)) (List.Perm.refl _) rfl rfl ?_)))
      rintro v43 a103 w103 - A103 (S103 : St I w0 w103 [Ch.own (rSlice 3 rInt) [v43] ([1]), Ch.blk g1 [.int .i64 p0a.1, va0, va1] 27, Ch.own (rSlice 4 rBool) [v2] r1, Ch.own (rSlice 3 rInt) [v31] s5.1, F])
      clear A99 S99 a99 w99
      obtain ⟨z18, e31, hm⟩ := bind_some hm
      refine rn A103 S103 (sop (opT_app (E := 3) (R := rInt) (s := v31) (u := v43) e31 Try.underlying34 tz3 rfl (by decide) rfl (by decide) rfl rfl rfl) (perm_sel [3, 0, 1, 2, 4] (m := 5) rfl rfl) rfl rfl ?_)
      rintro v44 a104 w104 - A104 (S104 : St I w0 w104 [Ch.own (rSlice 3 rInt) [v44] z18, Ch.blk g1 [.int .i64 p0a.1, va0, va1] 27, Ch.own (rSlice 4 rBool) [v2] r1, F])
      clear A103 S103 a103 w103
      refine rn A104 S104 (sv (opT_assign (v := v44) rfl rfl) rfl rfl (enR (L' := [(1, .pointer (some ⟨g1, 0, none⟩)), (3, v44), (11, v2), (12, .int .i64 (r1.length : Int)), (13, .int .i64 s5.2)]) rfl ?_))
      clear A104 S104 a104 w104;intro a105 w105 A105 S105
      refine nrmB (nrmB (nrm ?_))
      obtain rfl := Option.some.inj hm
      exact ⟨v44, A105.pick' ⟨rfl, rfl, rfl, rfl, rfl, trivial⟩, St.sel S105 4 [0, 1, 2, 3] rfl rfl⟩
    rintro a106 w106 ⟨v38, A106, S106⟩
    refine wp_region_lit (rn A106 S106 (sv (opT_add (m := s5.2) (n := 1) rfl rfl rfl) rfl rfl (sv (opT_move (v := .int .i64 (IntKind.i64.wrap (s5.2 + 1))) rfl rfl) rfl rfl (enR (L' := [(1, .pointer (some ⟨g1, 0, none⟩)), (3, v38), (11, v2), (12, .int .i64 (r1.length : Int)), (13, .int .i64 (IntKind.i64.wrap (s5.2 + 1)))]) rfl ?_))))
    clear A106 S106 a106 w106;intro a107 w107 A107 S107
    exact nrm (⟨_, (Option.some.inj hm).symm, ⟨v38, A107.pick' ⟨rfl, rfl, rfl, rfl, rfl, trivial⟩, St.sel S107 4 [0, 1, 2, 3] rfl rfl⟩⟩)
  rintro a108 w108 ⟨s6, ho4, v30, A108, S108⟩
  replace hm := loopOut ho4 hc3
  clear ho4 hc3 hl1
  refine nrm (wp_seq (wp_region_lit (rn A108 S108 (sv (opT_assign (v := .int .i64 (-1)) rfl rfl) rfl rfl (enR (L' := [(1, .pointer (some ⟨g1, 0, none⟩)), (3, v30), (6, .int .i64 (-1))]) rfl ?_)))))
  clear A108 S108 a108 w108;intro a109 w109 A109 S109
  refine nrm ?_
  obtain ⟨o6, hl2, hc5⟩ := bindL_some hm
  refine wp_cut (fun a w => ∃ s11 : (List Int) × Int, o6 = .brk s11 ∧ Agr 49 a [] ∧ St I w0 w [F]) ?_ ?_
  · refine wp_block (wp_loopM (R := List Int) (S := (List Int) × Int) (fun s10 a w => ∃ v48 : Value, Agr 49 a [(1, .pointer (some ⟨g1, 0, none⟩)), (3, v48), (6, .int .i64 s10.2)] ∧ St I w0 w [Ch.own (rSlice 3 rInt) [v48] s10.1, Ch.blk g1 [.int .i64 p0a.1, va0, va1] 27, F]) hl2 ?_ ?_)
    · exact ⟨v30, A109.pick' ⟨rfl, rfl, rfl, trivial⟩, St.sel S109 3 [0, 1, 2] rfl rfl⟩
    rintro s10 o7 hm hf2 a122 w122 ⟨v48, A122, S122⟩
    unfold m_i_Automaton_classes_l1 at hm
    refine wp_block (wp_seq (wp_region_lit (rn A122 S122 (sop (opT_load_blk (g := g1) (off := 0) (E := 27) (l := [.int .i64 p0a.1, va0, va1]) (d := [.int .i64 p0a.1, va0, va1]) (u := .agg #[.int .i64 p0a.1, va0, va1]) ti27 rfl rfl rfl rfl rfl rfl) (perm_front (i := 1) rfl) rfl rfl ?_))))
    rintro u a123 w123 hf A123 (S123 : St I w0 w123 [Ch.blk g1 [.int .i64 p0a.1, va0, va1] 27, Ch.own (rSlice 3 rInt) [v48] s10.1, F])
    obtain rfl := Eq.symm hf
    clear A122 S122 a122 w122
    refine rn A123 S123 (sv (opT_move (v := v48) rfl rfl) rfl rfl ?_)
    obtain ⟨r4, e34, hm⟩ := bind_some hm
    refine sop (OpT.lend (ls := [Ch.own (rSlice 3 rInt) [v48] s10.1]) (gv := fun v => [Ch.own (rSlice 3 rInt) [vg v [0]] r4.1]) (fun _ => ⟨dp_own (dp_slice dp_int), trivial⟩) fun J hJ hl hb => opT_call (args := #[.agg #[.int .i64 p0a.1, va0, va1], v48]) (first := #[]) (captured := #[]) en151 rfl rfl rfl (c_i_Automaton_refine (p0a.1, p0a.2.1, p0a.2.2) s10.1 _ e34 va0 va1 v48 (Rep.rd_mono _ ra0 hJ) (Rep.rd_mono _ ra1 hJ) (hl _ _ _ (List.Mem.head _)))) (perm_front (i := 1) rfl) rfl rfl ?_
    rintro u a124 w124 ⟨v49, rfl⟩ A124 (S124 : St I w0 w124 [Ch.own (rSlice 3 rInt) [v49] r4.1, Ch.own (rSlice 3 rInt) [v48] s10.1, Ch.blk g1 [.int .i64 p0a.1, va0, va1] 27, F])
    clear A123 S123 a123 w123
    refine rn A124 S124 (sv (opT_move (v := .tuple #[v49, .int .i64 r4.2]) rfl rfl) rfl rfl (sv (opT_extract (vs := #[v49, .int .i64 r4.2]) (v := v49) rfl rfl rfl) rfl rfl (sv (opT_extract (vs := #[v49, .int .i64 r4.2]) (v := .int .i64 r4.2) rfl rfl rfl) rfl rfl (sv (opT_assign (v := v49) rfl rfl) rfl rfl (sv (opT_assign (v := .int .i64 r4.2) rfl rfl) rfl rfl (enR (L' := [(1, .pointer (some ⟨g1, 0, none⟩)), (6, .int .i64 s10.2), (7, v49), (8, .int .i64 r4.2)]) rfl ?_))))))
    clear A124 S124 a124 w124;intro a125 w125 A125 S125
    refine nrm (wp_seq (wp_seq (wp_region_lit (rn A125 S125 (sv (opT_move (v := .int .i64 r4.2) rfl rfl) rfl rfl (sv (opT_move (v := .int .i64 s10.2) rfl rfl) rfl rfl (sv (opT_cmp (k := .i64) (m := r4.2) (n := s10.2) (c := r4.2 == s10.2) rfl rfl rfl rfl rfl) rfl rfl (enR (L' := [(1, .pointer (some ⟨g1, 0, none⟩)), (7, v49), (8, .int .i64 r4.2), (45, .bool (r4.2 == s10.2))]) rfl ?_))))))))
    clear A125 S125 a125 w125;intro a126 w126 A126 S126
    refine nrm ?_
    rcases two (r4.2 == s10.2) with hb18 | hb18
    · replace hm := ifFe hb18 hm
      refine cnd_false (b := r4.2 == s10.2) A126 rfl rfl hb18 ?_
      refine wp_skip (nrm (wp_region_lit (rn A126 S126 (sv (opT_move (v := v49) rfl rfl) rfl rfl (sv (opT_move (v := .int .i64 r4.2) rfl rfl) rfl rfl (sv (opT_assign (v := v49) rfl rfl) rfl rfl (sv (opT_assign (v := .int .i64 r4.2) rfl rfl) rfl rfl (enR (L' := [(1, .pointer (some ⟨g1, 0, none⟩)), (3, v49), (6, .int .i64 r4.2)]) rfl ?_))))))))
      clear A126 S126 a126 w126;intro a127 w127 A127 S127
      exact nrmB (nrm (⟨_, (Option.some.inj hm).symm, ⟨v49, A127.pick' ⟨rfl, rfl, rfl, trivial⟩, St.sel S127 4 [0, 2, 3] rfl rfl⟩⟩))
    replace hm := ifTe hb18 hm
    refine cnd_true (b := r4.2 == s10.2) A126 rfl rfl hb18 ?_
    refine wp_seq (wp_region_lit (rn A126 S126 (sv (opT_move (v := v49) rfl rfl) rfl rfl (sv (opT_assign (v := v49) rfl rfl) rfl rfl (enR (L' := [(2, v49)]) rfl ?_)))))
    clear A126 S126 a126 w126;intro a128 w128 A128 S128
    refine nrm (wp_ret (thenR (blkR (thenR (blkR (thenR ?_))))))
    replace hm := loopRet hm hf2 hc5
    obtain rfl := Option.some.inj hm
    exact ret_1 A128 rfl (res_tmp A128 rfl) ⟨_, rfl, trivial, _, Hp.le.rfl, St.sel (S128) 4 [0, 3] rfl rfl⟩
  rintro a129 w129 ⟨s11, ho5, A129, S129⟩
  replace hm := loopOut ho5 hc5
  clear ho5 hc5 hl2
  cases hm
end Go.Proofs.Ytcihbmdppgpmjaa.D
