/- Printed by dec.py: models of functions and the walks that show them. -/
import Derived.Test.YtcihbmdppgpmjaaUw0_1
import Derived.Test.YtcihbmdppgpmjaaUw0_2
import Derived.Test.YtcihbmdppgpmjaaUw0_3
set_option linter.unusedVariables false
set_option linter.unusedSimpArgs false
set_option linter.unnecessarySimpa false
set_option maxRecDepth 100000
namespace Go.Proofs.Ytcihbmdppgpmjaa.D
open Go.RowKit
set_option maxHeartbeats 8000000 in
theorem c_s_l12Classes (p0 : Int × (List Bool) × (List (List Int))) (r : List Int) (hm : m_s_l12Classes p0 = some r) {I : Hp} {w0 : World} (va0 : Value) (va1 : Value) (ra0 : (rSlice 4 rBool).rd I [va0] p0.2.1) (ra1 : (rSlice 34 (rSlice 3 rInt)).rd I [va1] p0.2.2) : Con Try.prog 105 #[.agg #[.int .i64 p0.1, va0, va1]] I w0 [] (fun v => True) (fun v => [Ch.own (rSlice 3 rInt) [v] r]) := by
  refine con_of_wp (n := 99) [(0, .agg #[.int .i64 p0.1, va0, va1])] Try.func105 rfl rfl (Nat.le_of_ble_eq_true rfl) (args_all ⟨rfl, trivial⟩) (fun F w a ha hs => ?_) (fun v => ⟨dp_own (dp_slice dp_int), trivial⟩)
  unfold m_s_l12Classes at hm
  refine wp_seq ?_
  refine wp_region_lit ?_
  refine seq_op ha hs rfl (opT_box (u := .agg #[.int .i64 p0.1, va0, va1]) (l := [.int .i64 p0.1, va0, va1]) rfl rfl rfl) (List.Perm.refl _) rfl ?_
  rintro _ a1 w1 ⟨g1, rfl⟩ A1 (S1 : St I w0 w1 [Ch.blk g1 [.int .i64 p0.1, va0, va1] 27, F])
  clear ha hs a w
  refine sv A1 S1 (opT_assign (v := .slice none 0 0) rfl rfl) rfl rfl ?_
  clear A1 S1 a1 w1;intro a2 w2 A2 S2
  refine wpList_nil ?_
  replace A2 := A2.pick' (L' := [(1, .pointer (some ⟨g1, 0, none⟩))]) ⟨rfl, trivial⟩
  refine nrm ?_
  refine wp_seq ?_
  refine wp_region_lit ?_
  refine seq_op A2 S2 rfl (opT_load_blk (g := g1) (off := 0) (E := 27) (l := [.int .i64 p0.1, va0, va1]) (d := [.int .i64 p0.1, va0, va1]) (u := .agg #[.int .i64 p0.1, va0, va1]) ti27 rfl rfl rfl rfl rfl rfl) (perm_front (i := 0) rfl) rfl ?_
  rintro u a3 w3 hf A3 (S3 : St I w0 w3 [Ch.blk g1 [.int .i64 p0.1, va0, va1] 27, F])
  obtain rfl := Eq.symm hf
  clear A2 S2 a2 w2
  obtain ⟨r1, e1, hm⟩ := bind_some hm
  refine seq_op A3 S3 rfl (opT_call (args := #[.agg #[.int .i64 p0.1, va0, va1]]) (first := #[]) (captured := #[]) en48 rfl rfl rfl (c_s_l11Live (p0.1, p0.2.1, p0.2.2) _ e1 va0 va1 ra0 ra1)) (List.Perm.refl _) rfl ?_
  rintro v1 a4 w4 - A4 (S4 : St I w0 w4 [Ch.own (rSlice 4 rBool) [v1] r1, Ch.blk g1 [.int .i64 p0.1, va0, va1] 27, F])
  clear A3 S3 a3 w3
  refine sv A4 S4 (opT_assign (v := v1) rfl rfl) rfl rfl ?_
  clear A4 S4 a4 w4;intro a5 w5 A5 S5
  refine wpList_nil ?_
  replace A5 := A5.pick' (L' := [(1, .pointer (some ⟨g1, 0, none⟩)), (3, v1)]) ⟨rfl, rfl, trivial⟩
  refine nrm ?_
  refine wp_seq ?_
  refine wp_region_lit ?_
  refine seq_op A5 S5 rfl (opT_lit0 (E := 3) (R := rInt) Try.underlying34 ti3 rfl) (List.Perm.refl _) rfl ?_
  rintro v2 a6 w6 - A6 (S6 : St I w0 w6 [Ch.own (rSlice 3 rInt) [v2] ([] : List Int), Ch.own (rSlice 4 rBool) [v1] r1, Ch.blk g1 [.int .i64 p0.1, va0, va1] 27, F])
  clear A5 S5 a5 w5
  refine sv A6 S6 (opT_assign (v := v2) rfl rfl) rfl rfl ?_
  clear A6 S6 a6 w6;intro a7 w7 A7 S7
  refine wpList_nil ?_
  replace A7 := A7.pick' (L' := [(1, .pointer (some ⟨g1, 0, none⟩)), (3, v1), (4, v2)]) ⟨rfl, rfl, rfl, trivial⟩
  refine nrm ?_
  refine wp_seq ?_
  refine wp_seq ?_
  refine wp_region_lit ?_
  refine sv A7 S7 (opT_assign (v := .int .i64 0) rfl rfl) rfl rfl ?_
  clear A7 S7 a7 w7;intro a8 w8 A8 S8
  refine wpList_nil ?_
  replace A8 := A8.pick' (L' := [(1, .pointer (some ⟨g1, 0, none⟩)), (3, v1), (4, v2), (5, .int .i64 0)]) ⟨rfl, rfl, rfl, rfl, trivial⟩
  refine nrm ?_
  obtain ⟨o5, hl1, hc5⟩ := bindL_some hm
  refine wp_cut (fun a w => ∃ s8 : (List Int) × Int, o5 = .brk s8 ∧ ∃ v8 : Value, Agr 99 a [(1, .pointer (some ⟨g1, 0, none⟩)), (4, v8)] ∧ St I w0 w [Ch.own (rSlice 3 rInt) [v8] s8.1, Ch.blk g1 [.int .i64 p0.1, va0, va1] 27, F]) ?_ ?_
  · refine wp_block (wp_loopM (R := List Int) (S := (List Int) × Int) (fun s7 a w => ∃ v9 : Value, Agr 99 a [(1, .pointer (some ⟨g1, 0, none⟩)), (3, v1), (4, v9), (5, .int .i64 s7.2)] ∧ St I w0 w [Ch.own (rSlice 3 rInt) [v9] s7.1, Ch.blk g1 [.int .i64 p0.1, va0, va1] 27, Ch.own (rSlice 4 rBool) [v1] r1, F]) hl1 ?_ ?_)
    · exact ⟨v2, A8.pick' ⟨rfl, rfl, rfl, rfl, trivial⟩, St.sel S8 4 [0, 2, 1, 3] rfl rfl⟩
    · rintro s7 o6 hm hf1 a89 w89 ⟨v9, A89, S89⟩
      unfold m_s_l12Classes_l0 at hm
      refine wp_seq ?_
      refine wp_seq ?_
      refine wp_region_lit ?_
      refine sv A89 S89 (opT_move (v := .int .i64 s7.2) rfl rfl) rfl rfl ?_
      clear A89 S89 a89 w89;intro a90 w90 A90 S90
      refine sv A90 S90 (opT_field_addr (g := g1) (b := 0) tf27_1 rfl rfl) rfl rfl ?_
      clear A90 S90 a90 w90;intro a91 w91 A91 S91
      refine seq_op A91 S91 rfl (opT_load_blk (g := g1) (off := 1) (E := 27) (l := [.int .i64 p0.1, va0, va1]) (d := [va0]) (u := va0) ti22 rfl rfl rfl rfl rfl rfl) (perm_front (i := 1) rfl) rfl ?_
      rintro u a92 w92 hf A92 (S92 : St I w0 w92 [Ch.blk g1 [.int .i64 p0.1, va0, va1] 27, Ch.own (rSlice 3 rInt) [v9] s7.1, Ch.own (rSlice 4 rBool) [v1] r1, F])
      obtain rfl := Eq.symm hf
      clear A91 S91 a91 w91
      refine sv A92 S92 (opT_len_hd (v := va0) (n := p0.2.1.length) (Hd.of_rd ra0) Try.underlying22 rfl rfl) rfl rfl ?_
      clear A92 S92 a92 w92;intro a93 w93 A93 S93
      refine sv A93 S93 (opT_cmp (k := .i64) (m := s7.2) (n := (p0.2.1.length : Int)) (c := decide (s7.2 < (p0.2.1.length : Int))) rfl rfl rfl rfl rfl) rfl rfl ?_
      clear A93 S93 a93 w93;intro a94 w94 A94 S94
      refine wpList_nil ?_
      replace A94 := A94.pick' (L' := [(1, .pointer (some ⟨g1, 0, none⟩)), (3, v1), (4, v9), (5, .int .i64 s7.2), (21, .bool (decide (s7.2 < (p0.2.1.length : Int))))]) ⟨rfl, rfl, rfl, rfl, rfl, trivial⟩
      refine nrm ?_
      rcases two (decide (s7.2 < (p0.2.1.length : Int))) with hb11 | hb11
      · replace hm := ifFe hb11 hm
        refine cnd_false (b := decide (s7.2 < (p0.2.1.length : Int))) A94 rfl rfl hb11 ?_
        refine wp_exit ?_
        refine thenX ?_
        refine thenX ?_
        refine ex_in ?_
        refine nrm ?_
        exact ⟨_, loopBrk hm hf1, ⟨v9, A94.pick' ⟨rfl, rfl, trivial⟩, St.sel S94 4 [1, 0, 3] rfl rfl⟩⟩
      · replace hm := ifTe hb11 hm
        refine cnd_true (b := decide (s7.2 < (p0.2.1.length : Int))) A94 rfl rfl hb11 ?_
        refine wp_skip ?_
        refine nrm ?_
        refine wp_seq ?_
        refine wp_block ?_
        refine wp_seq ?_
        refine wp_region_lit ?_
        refine sv A94 S94 (opT_assign (v := .int .i64 0) rfl rfl) rfl rfl ?_
        clear A94 S94 a94 w94;intro a95 w95 A95 S95
        refine wpList_nil ?_
        replace A95 := A95.pick' (L' := [(1, .pointer (some ⟨g1, 0, none⟩)), (3, v1), (4, v9), (5, .int .i64 s7.2), (6, .int .i64 0)]) ⟨rfl, rfl, rfl, rfl, rfl, trivial⟩
        refine nrm ?_
        obtain ⟨s9, hj5, hm⟩ := bind_some hm
        refine wp_seq_cut (fun a w => Agr 99 a [(1, .pointer (some ⟨g1, 0, none⟩)), (3, v1), (4, v9), (5, .int .i64 s7.2), (6, .int .i64 s9)] ∧ St I w0 w [Ch.blk g1 [.int .i64 p0.1, va0, va1] 27, Ch.own (rSlice 4 rBool) [v1] r1, Ch.own (rSlice 3 rInt) [v9] s7.1, F]) ?_ ?_
        · replace hm := hj5
          refine wp_seq ?_
          refine wp_region_lit ?_
          refine sv A95 S95 (opT_field_addr (g := g1) (b := 0) tf27_1 rfl rfl) rfl rfl ?_
          clear A95 S95 a95 w95;intro a102 w102 A102 S102
          refine seq_op A102 S102 rfl (opT_load_blk (g := g1) (off := 1) (E := 27) (l := [.int .i64 p0.1, va0, va1]) (d := [va0]) (u := va0) ti22 rfl rfl rfl rfl rfl rfl) (perm_front (i := 0) rfl) rfl ?_
          rintro u a103 w103 hf A103 (S103 : St I w0 w103 [Ch.blk g1 [.int .i64 p0.1, va0, va1] 27, Ch.own (rSlice 3 rInt) [v9] s7.1, Ch.own (rSlice 4 rBool) [v1] r1, F])
          obtain rfl := Eq.symm hf
          clear A102 S102 a102 w102
          refine sv A103 S103 (opT_move (v := .int .i64 s7.2) rfl rfl) rfl rfl ?_
          clear A103 S103 a103 w103;intro a104 w104 A104 S104
          obtain ⟨x10, e13, hm⟩ := bind_some hm
          refine sv A104 S104 (opT_index_hd (xs := p0.2.1) (i := s7.2) (n := 1) (Hd.of_rd ra0) Try.underlying22 ti4 rfl rfl rfl (getI_in e13)) rfl rfl ?_
          clear A104 S104 a104 w104;intro a105 w105 A105 S105
          refine seq_op0 A105 S105 (opT_load_el (S := rBool) (xs := p0.2.1) (a := x10) (i := s7.2) (k := 1) (off := 0) (f := fun (x : Bool) => x) ra0 e13 Fld.self ti4 rfl rfl rfl rfl rfl) rfl rfl ?_
          rintro u a106 w106 hf A106 S106
          obtain rfl := lds_one hf
          clear A105 S105 a105 w105
          refine wpList_nil ?_
          replace A106 := A106.pick' (L' := [(1, .pointer (some ⟨g1, 0, none⟩)), (3, v1), (4, v9), (5, .int .i64 s7.2), (6, .int .i64 0), (28, .bool x10)]) ⟨rfl, rfl, rfl, rfl, rfl, rfl, trivial⟩
          refine nrm ?_
          rcases two (x10) with hb13 | hb13
          · replace hm := ifFe hb13 hm
            refine cnd_false (b := x10) A106 rfl rfl hb13 ?_
            refine wp_skip ?_
            refine nrm ?_
            obtain rfl := Option.some.inj hm
            exact ⟨A106.pick' ⟨rfl, rfl, rfl, rfl, rfl, trivial⟩, St.sel S106 4 [0, 2, 1, 3] rfl rfl⟩
          · replace hm := ifTe hb13 hm
            refine cnd_true (b := x10) A106 rfl rfl hb13 ?_
            refine wp_region_lit ?_
            refine sv A106 S106 (opT_assign (v := .int .i64 1) rfl rfl) rfl rfl ?_
            clear A106 S106 a106 w106;intro a107 w107 A107 S107
            refine wpList_nil ?_
            replace A107 := A107.pick' (L' := [(1, .pointer (some ⟨g1, 0, none⟩)), (3, v1), (4, v9), (5, .int .i64 s7.2), (6, .int .i64 1)]) ⟨rfl, rfl, rfl, rfl, rfl, trivial⟩
            refine nrm ?_
            obtain rfl := Option.some.inj hm
            exact ⟨A107.pick' ⟨rfl, rfl, rfl, rfl, rfl, trivial⟩, St.sel S107 4 [0, 2, 1, 3] rfl rfl⟩
        · rintro a108 w108 ⟨A108, S108⟩
          obtain ⟨s10, hj6, hm⟩ := bind_some hm
          refine wp_seq_cut (fun a w => Agr 99 a [(1, .pointer (some ⟨g1, 0, none⟩)), (3, v1), (4, v9), (5, .int .i64 s7.2), (6, .int .i64 s10)] ∧ St I w0 w [Ch.blk g1 [.int .i64 p0.1, va0, va1] 27, Ch.own (rSlice 4 rBool) [v1] r1, Ch.own (rSlice 3 rInt) [v9] s7.1, F]) ?_ ?_
          · replace hm := hj6
            refine wp_seq ?_
            refine wp_region_lit ?_
            refine sv A108 S108 (opT_move (v := v1) rfl rfl) rfl rfl ?_
            clear A108 S108 a108 w108;intro a115 w115 A115 S115
            refine sv A115 S115 (opT_move (v := .int .i64 s7.2) rfl rfl) rfl rfl ?_
            clear A115 S115 a115 w115;intro a116 w116 A116 S116
            obtain ⟨x12, e15, hm⟩ := bind_some hm
            refine sv A116 S116 (opT_index_hd (xs := r1) (i := s7.2) (n := 1) (St.hd S116 1 rfl).1 Try.underlying22 ti4 rfl rfl rfl (getI_in e15)) rfl rfl ?_
            clear A116 S116 a116 w116;intro a117 w117 A117 S117
            refine seq_op A117 S117 rfl (opT_load_own (E := 4) (R := rBool) (S := rBool) (xs := r1) (a := x12) (i := s7.2) (k := 1) (off := 0) (f := fun (x : Bool) => x) sh_bool e15 Fld.self ti4 rfl rfl rfl rfl rfl) (perm_front (i := 1) rfl) rfl ?_
            rintro u a118 w118 hf A118 (S118 : St I w0 w118 [Ch.own (rSlice 4 rBool) [v1] r1, Ch.blk g1 [.int .i64 p0.1, va0, va1] 27, Ch.own (rSlice 3 rInt) [v9] s7.1, F])
            obtain rfl := lds_one hf
            clear A117 S117 a117 w117
            refine sv A118 S118 (opT_not (b := x12) rfl rfl) rfl rfl ?_
            clear A118 S118 a118 w118;intro a119 w119 A119 S119
            refine wpList_nil ?_
            replace A119 := A119.pick' (L' := [(1, .pointer (some ⟨g1, 0, none⟩)), (3, v1), (4, v9), (5, .int .i64 s7.2), (6, .int .i64 s9), (33, .bool (!x12))]) ⟨rfl, rfl, rfl, rfl, rfl, rfl, trivial⟩
            refine nrm ?_
            rcases two (x12) with hb15 | hb15
            · replace hm := ifFe hb15 hm
              refine cnd_true (b := !x12) A119 rfl rfl (notT hb15) ?_
              refine wp_region_lit ?_
              refine sv A119 S119 (opT_assign (v := .int .i64 (-1)) rfl rfl) rfl rfl ?_
              clear A119 S119 a119 w119;intro a120 w120 A120 S120
              refine wpList_nil ?_
              replace A120 := A120.pick' (L' := [(1, .pointer (some ⟨g1, 0, none⟩)), (3, v1), (4, v9), (5, .int .i64 s7.2), (6, .int .i64 (-1))]) ⟨rfl, rfl, rfl, rfl, rfl, trivial⟩
              refine nrm ?_
              obtain rfl := Option.some.inj hm
              exact ⟨A120.pick' ⟨rfl, rfl, rfl, rfl, rfl, trivial⟩, St.sel S120 4 [1, 0, 2, 3] rfl rfl⟩
            · replace hm := ifTe hb15 hm
              refine cnd_false (b := !x12) A119 rfl rfl (notF hb15) ?_
              refine wp_skip ?_
              refine nrm ?_
              obtain rfl := Option.some.inj hm
              exact ⟨A119.pick' ⟨rfl, rfl, rfl, rfl, rfl, trivial⟩, St.sel S119 4 [1, 0, 2, 3] rfl rfl⟩
          · rintro a121 w121 ⟨A121, S121⟩
            refine wp_region_lit ?_
            refine sv A121 S121 (opT_move (v := v9) rfl rfl) rfl rfl ?_
            clear A121 S121 a121 w121;intro a122 w122 A122 S122
            refine sv A122 S122 (opT_move (v := .int .i64 s10) rfl rfl) rfl rfl ?_
            clear A122 S122 a122 w122;intro a123 w123 A123 S123
            refine seq_op A123 S123 rfl (opT_lit_cpy (E := 3) (R := rInt) (S := rInt) [(.int .i64 s10, [.int .i64 s10])] [s10] cpy_int (rd_all ⟨rfl, trivial⟩) Try.underlying34 tz3 (by decide) rfl (by decide) (by decide) rfl rfl rfl rfl (us_all ⟨⟨rfl, rfl⟩, trivial⟩)) (List.Perm.refl _) rfl ?_
            rintro v10 a124 w124 - A124 (S124 : St I w0 w124 [Ch.own (rSlice 3 rInt) [v10] ([s10]), Ch.blk g1 [.int .i64 p0.1, va0, va1] 27, Ch.own (rSlice 4 rBool) [v1] r1, Ch.own (rSlice 3 rInt) [v9] s7.1, F])
            clear A123 S123 a123 w123
            obtain ⟨z3, e16, hm⟩ := bind_some hm
            refine seq_op A124 S124 rfl (opT_app (E := 3) (R := rInt) (s := v9) (u := v10) e16 Try.underlying34 tz3 rfl (by decide) rfl (by decide) rfl rfl rfl) (perm_sel [3, 0, 1, 2, 4] (m := 5) rfl rfl) rfl ?_
            rintro v11 a125 w125 - A125 (S125 : St I w0 w125 [Ch.own (rSlice 3 rInt) [v11] z3, Ch.blk g1 [.int .i64 p0.1, va0, va1] 27, Ch.own (rSlice 4 rBool) [v1] r1, F])
            clear A124 S124 a124 w124
            refine sv A125 S125 (opT_assign (v := v11) rfl rfl) rfl rfl ?_
            clear A125 S125 a125 w125;intro a126 w126 A126 S126
            refine wpList_nil ?_
            replace A126 := A126.pick' (L' := [(1, .pointer (some ⟨g1, 0, none⟩)), (3, v1), (4, v11), (5, .int .i64 s7.2)]) ⟨rfl, rfl, rfl, rfl, trivial⟩
            refine nrmB ?_
            refine nrm ?_
            refine wp_region_lit ?_
            refine sv A126 S126 (opT_move (v := .int .i64 s7.2) rfl rfl) rfl rfl ?_
            clear A126 S126 a126 w126;intro a127 w127 A127 S127
            refine sv A127 S127 (opT_add (m := s7.2) (n := 1) rfl rfl rfl) rfl rfl ?_
            clear A127 S127 a127 w127;intro a128 w128 A128 S128
            refine sv A128 S128 (opT_assign (v := .int .i64 (IntKind.i64.wrap (s7.2 + 1))) rfl rfl) rfl rfl ?_
            clear A128 S128 a128 w128;intro a129 w129 A129 S129
            refine wpList_nil ?_
            replace A129 := A129.pick' (L' := [(1, .pointer (some ⟨g1, 0, none⟩)), (3, v1), (4, v11), (5, .int .i64 (IntKind.i64.wrap (s7.2 + 1)))]) ⟨rfl, rfl, rfl, rfl, trivial⟩
            refine nrm ?_
            exact ⟨_, (Option.some.inj hm).symm, ⟨v11, A129.pick' ⟨rfl, rfl, rfl, rfl, trivial⟩, St.sel S129 4 [0, 1, 2, 3] rfl rfl⟩⟩
  · rintro a130 w130 ⟨s8, ho7, v8, A130, S130⟩
    replace hm := loopOut ho7 hc5
    clear ho7 hc5 hl1
    refine nrm ?_
    refine wp_seq ?_
    refine wp_seq ?_
    refine wp_region_lit ?_
    refine sv A130 S130 (opT_assign (v := .int .i64 0) rfl rfl) rfl rfl ?_
    clear A130 S130 a130 w130;intro a131 w131 A131 S131
    refine wpList_nil ?_
    replace A131 := A131.pick' (L' := [(1, .pointer (some ⟨g1, 0, none⟩)), (4, v8), (7, .int .i64 0)]) ⟨rfl, rfl, rfl, trivial⟩
    refine nrm ?_
    obtain ⟨o91, hl16, hc76⟩ := bindL_some hm
    refine wp_cut (fun a w => ∃ s124 : (List Int) × Int, o91 = .brk s124 ∧ ∃ v303 : Value, Agr 99 a [(4, v303)] ∧ St I w0 w [Ch.own (rSlice 3 rInt) [v303] s124.1, F]) ?_ ?_
    · refine wp_block (wp_loopM (R := List Int) (S := (List Int) × Int) (fun s123 a w => ∃ v304 : Value, Agr 99 a [(1, .pointer (some ⟨g1, 0, none⟩)), (4, v304), (7, .int .i64 s123.2)] ∧ St I w0 w [Ch.own (rSlice 3 rInt) [v304] s123.1, Ch.blk g1 [.int .i64 p0.1, va0, va1] 27, F]) hl16 ?_ ?_)
      · exact ⟨v8, A131.pick' ⟨rfl, rfl, rfl, trivial⟩, St.sel S131 3 [0, 1, 2] rfl rfl⟩
      · rintro s123 o92 hm hf16 a1696 w1696 ⟨v304, A1696, S1696⟩
        unfold m_s_l12Classes_l1 at hm
        refine wp_seq ?_
        refine wp_seq ?_
        refine wp_region_lit ?_
        refine sv A1696 S1696 (opT_move (v := .int .i64 s123.2) rfl rfl) rfl rfl ?_
        clear A1696 S1696 a1696 w1696;intro a1697 w1697 A1697 S1697
        refine sv A1697 S1697 (opT_field_addr (g := g1) (b := 0) tf27_1 rfl rfl) rfl rfl ?_
        clear A1697 S1697 a1697 w1697;intro a1698 w1698 A1698 S1698
        refine seq_op A1698 S1698 rfl (opT_load_blk (g := g1) (off := 1) (E := 27) (l := [.int .i64 p0.1, va0, va1]) (d := [va0]) (u := va0) ti22 rfl rfl rfl rfl rfl rfl) (perm_front (i := 1) rfl) rfl ?_
        rintro u a1699 w1699 hf A1699 (S1699 : St I w0 w1699 [Ch.blk g1 [.int .i64 p0.1, va0, va1] 27, Ch.own (rSlice 3 rInt) [v304] s123.1, F])
        obtain rfl := Eq.symm hf
        clear A1698 S1698 a1698 w1698
        refine sv A1699 S1699 (opT_len_hd (v := va0) (n := p0.2.1.length) (Hd.of_rd ra0) Try.underlying22 rfl rfl) rfl rfl ?_
        clear A1699 S1699 a1699 w1699;intro a1700 w1700 A1700 S1700
        refine sv A1700 S1700 (opT_cmp (k := .i64) (m := s123.2) (n := (p0.2.1.length : Int)) (c := decide (s123.2 ≤ (p0.2.1.length : Int))) rfl rfl rfl rfl rfl) rfl rfl ?_
        clear A1700 S1700 a1700 w1700;intro a1701 w1701 A1701 S1701
        refine wpList_nil ?_
        replace A1701 := A1701.pick' (L' := [(1, .pointer (some ⟨g1, 0, none⟩)), (4, v304), (7, .int .i64 s123.2), (42, .bool (decide (s123.2 ≤ (p0.2.1.length : Int))))]) ⟨rfl, rfl, rfl, rfl, trivial⟩
        refine nrm ?_
        rcases two (decide (s123.2 ≤ (p0.2.1.length : Int))) with hb170 | hb170
        · replace hm := ifFe hb170 hm
          refine cnd_false (b := decide (s123.2 ≤ (p0.2.1.length : Int))) A1701 rfl rfl hb170 ?_
          refine wp_exit ?_
          refine thenX ?_
          refine thenX ?_
          refine ex_in ?_
          refine nrm ?_
          exact ⟨_, loopBrk hm hf16, ⟨v304, A1701.pick' ⟨rfl, trivial⟩, St.sel S1701 3 [1, 2] rfl rfl⟩⟩
        · replace hm := ifTe hb170 hm
          refine cnd_true (b := decide (s123.2 ≤ (p0.2.1.length : Int))) A1701 rfl rfl hb170 ?_
          refine wp_skip ?_
          refine nrm ?_
          refine wp_seq ?_
          refine wp_block ?_
          refine wp_seq ?_
          refine wp_region_lit ?_
          refine seq_op A1701 S1701 rfl (opT_lit0 (E := 34) (R := rSlice 3 rInt) Try.underlying23 ti34 rfl) (List.Perm.refl _) rfl ?_
          rintro v305 a1702 w1702 - A1702 (S1702 : St I w0 w1702 [Ch.own (rSlice 34 (rSlice 3 rInt)) [v305] ([] : List (List Int)), Ch.blk g1 [.int .i64 p0.1, va0, va1] 27, Ch.own (rSlice 3 rInt) [v304] s123.1, F])
          clear A1701 S1701 a1701 w1701
          refine sv A1702 S1702 (opT_assign (v := v305) rfl rfl) rfl rfl ?_
          clear A1702 S1702 a1702 w1702;intro a1703 w1703 A1703 S1703
          refine wpList_nil ?_
          replace A1703 := A1703.pick' (L' := [(1, .pointer (some ⟨g1, 0, none⟩)), (4, v304), (7, .int .i64 s123.2), (8, v305)]) ⟨rfl, rfl, rfl, rfl, trivial⟩
          refine nrm ?_
          refine wp_seq ?_
          refine wp_region_lit ?_
          refine seq_op A1703 S1703 rfl (opT_lit0 (E := 3) (R := rInt) Try.underlying34 ti3 rfl) (List.Perm.refl _) rfl ?_
          rintro v306 a1704 w1704 - A1704 (S1704 : St I w0 w1704 [Ch.own (rSlice 3 rInt) [v306] ([] : List Int), Ch.own (rSlice 34 (rSlice 3 rInt)) [v305] ([] : List (List Int)), Ch.blk g1 [.int .i64 p0.1, va0, va1] 27, Ch.own (rSlice 3 rInt) [v304] s123.1, F])
          clear A1703 S1703 a1703 w1703
          refine sv A1704 S1704 (opT_assign (v := v306) rfl rfl) rfl rfl ?_
          clear A1704 S1704 a1704 w1704;intro a1705 w1705 A1705 S1705
          refine wpList_nil ?_
          replace A1705 := A1705.pick' (L' := [(1, .pointer (some ⟨g1, 0, none⟩)), (4, v304), (7, .int .i64 s123.2), (8, v305), (9, v306)]) ⟨rfl, rfl, rfl, rfl, rfl, trivial⟩
          refine nrm ?_
          refine wp_seq ?_
          refine wp_seq ?_
          refine wp_region_lit ?_
          refine sv A1705 S1705 (opT_assign (v := .int .i64 0) rfl rfl) rfl rfl ?_
          clear A1705 S1705 a1705 w1705;intro a1706 w1706 A1706 S1706
          refine wpList_nil ?_
          replace A1706 := A1706.pick' (L' := [(1, .pointer (some ⟨g1, 0, none⟩)), (4, v304), (7, .int .i64 s123.2), (8, v305), (9, v306), (10, .int .i64 0)]) ⟨rfl, rfl, rfl, rfl, rfl, rfl, trivial⟩
          refine nrm ?_
          obtain ⟨o119, hl21, hc99⟩ := bindL_some hm
          refine wp_cut (fun a w => ∃ s162 : (List (List Int)) × (List Int) × Int, o119 = .brk s162 ∧ ∃ v401 : Value, Agr 99 a [(1, .pointer (some ⟨g1, 0, none⟩)), (4, v304), (7, .int .i64 s123.2), (9, v401)] ∧ St I w0 w [Ch.own (rSlice 3 rInt) [v401] s162.2.1, Ch.blk g1 [.int .i64 p0.1, va0, va1] 27, Ch.own (rSlice 3 rInt) [v304] s123.1, F]) ?_ ?_
          · refine wp_block (wp_loopM (R := List Int) (S := (List (List Int)) × (List Int) × Int) (fun s161 a w => ∃ v402 v403 : Value, Agr 99 a [(1, .pointer (some ⟨g1, 0, none⟩)), (4, v304), (7, .int .i64 s123.2), (8, v402), (9, v403), (10, .int .i64 s161.2.2)] ∧ St I w0 w [Ch.own (rSlice 34 (rSlice 3 rInt)) [v402] s161.1, Ch.own (rSlice 3 rInt) [v403] s161.2.1, Ch.blk g1 [.int .i64 p0.1, va0, va1] 27, Ch.own (rSlice 3 rInt) [v304] s123.1, F]) hl21 ?_ ?_)
            · exact ⟨v305, v306, A1706.pick' ⟨rfl, rfl, rfl, rfl, rfl, rfl, trivial⟩, St.sel S1706 5 [1, 0, 2, 3, 4] rfl rfl⟩
            · rintro s161 o120 hm hf21 a2213 w2213 ⟨v402, v403, A2213, S2213⟩
              unfold m_s_l12Classes_l2 at hm
              refine wp_seq ?_
              refine wp_seq ?_
              refine wp_region_lit ?_
              refine sv A2213 S2213 (opT_move (v := .int .i64 s161.2.2) rfl rfl) rfl rfl ?_
              clear A2213 S2213 a2213 w2213;intro a2214 w2214 A2214 S2214
              refine sv A2214 S2214 (opT_field_addr (g := g1) (b := 0) tf27_1 rfl rfl) rfl rfl ?_
              clear A2214 S2214 a2214 w2214;intro a2215 w2215 A2215 S2215
              refine seq_op A2215 S2215 rfl (opT_load_blk (g := g1) (off := 1) (E := 27) (l := [.int .i64 p0.1, va0, va1]) (d := [va0]) (u := va0) ti22 rfl rfl rfl rfl rfl rfl) (perm_front (i := 2) rfl) rfl ?_
              rintro u a2216 w2216 hf A2216 (S2216 : St I w0 w2216 [Ch.blk g1 [.int .i64 p0.1, va0, va1] 27, Ch.own (rSlice 34 (rSlice 3 rInt)) [v402] s161.1, Ch.own (rSlice 3 rInt) [v403] s161.2.1, Ch.own (rSlice 3 rInt) [v304] s123.1, F])
              obtain rfl := Eq.symm hf
              clear A2215 S2215 a2215 w2215
              refine sv A2216 S2216 (opT_len_hd (v := va0) (n := p0.2.1.length) (Hd.of_rd ra0) Try.underlying22 rfl rfl) rfl rfl ?_
              clear A2216 S2216 a2216 w2216;intro a2217 w2217 A2217 S2217
              refine sv A2217 S2217 (opT_cmp (k := .i64) (m := s161.2.2) (n := (p0.2.1.length : Int)) (c := decide (s161.2.2 < (p0.2.1.length : Int))) rfl rfl rfl rfl rfl) rfl rfl ?_
              clear A2217 S2217 a2217 w2217;intro a2218 w2218 A2218 S2218
              refine wpList_nil ?_
              replace A2218 := A2218.pick' (L' := [(1, .pointer (some ⟨g1, 0, none⟩)), (4, v304), (7, .int .i64 s123.2), (8, v402), (9, v403), (10, .int .i64 s161.2.2), (51, .bool (decide (s161.2.2 < (p0.2.1.length : Int))))]) ⟨rfl, rfl, rfl, rfl, rfl, rfl, rfl, trivial⟩
              refine nrm ?_
              rcases two (decide (s161.2.2 < (p0.2.1.length : Int))) with hb221 | hb221
              · replace hm := ifFe hb221 hm
                refine cnd_false (b := decide (s161.2.2 < (p0.2.1.length : Int))) A2218 rfl rfl hb221 ?_
                refine wp_exit ?_
                refine thenX ?_
                refine thenX ?_
                refine ex_in ?_
                refine nrm ?_
                exact ⟨_, loopBrk hm hf21, ⟨v403, A2218.pick' ⟨rfl, rfl, rfl, rfl, trivial⟩, St.sel S2218 5 [2, 0, 3, 4] rfl rfl⟩⟩
              · replace hm := ifTe hb221 hm
                refine cnd_true (b := decide (s161.2.2 < (p0.2.1.length : Int))) A2218 rfl rfl hb221 ?_
                refine wp_skip ?_
                refine nrm ?_
                obtain ⟨s171, hj83, hm⟩ := bind_some hm
                refine wp_seq_cut (fun a w => ∃ v426 v427 : Value, Agr 99 a [(1, .pointer (some ⟨g1, 0, none⟩)), (4, v304), (7, .int .i64 s123.2), (8, v426), (9, v427), (10, .int .i64 s161.2.2)] ∧ St I w0 w [Ch.own (rSlice 34 (rSlice 3 rInt)) [v426] s171.1, Ch.own (rSlice 3 rInt) [v427] s171.2, Ch.blk g1 [.int .i64 p0.1, va0, va1] 27, Ch.own (rSlice 3 rInt) [v304] s123.1, F]) ?_ ?_
                · replace hm := hj83
                  refine wp_block ?_
                  refine wp_seq ?_
                  refine wp_seq ?_
                  refine wp_region_lit ?_
                  refine sv A2218 S2218 (opT_move (v := v304) rfl rfl) rfl rfl ?_
                  clear A2218 S2218 a2218 w2218;intro a2341 w2341 A2341 S2341
                  refine sv A2341 S2341 (opT_move (v := .int .i64 s161.2.2) rfl rfl) rfl rfl ?_
                  clear A2341 S2341 a2341 w2341;intro a2342 w2342 A2342 S2342
                  obtain ⟨x132, e325, hm⟩ := bind_some hm
                  refine sv A2342 S2342 (opT_index_hd (xs := s123.1) (i := s161.2.2) (n := 1) (St.hd S2342 3 rfl).1 Try.underlying34 ti3 rfl rfl rfl (getI_in e325)) rfl rfl ?_
                  clear A2342 S2342 a2342 w2342;intro a2343 w2343 A2343 S2343
                  refine seq_op A2343 S2343 rfl (opT_load_own (E := 3) (R := rInt) (S := rInt) (xs := s123.1) (a := x132) (i := s161.2.2) (k := 1) (off := 0) (f := fun (x : Int) => x) sh_int e325 Fld.self ti3 rfl rfl rfl rfl rfl) (perm_front (i := 3) rfl) rfl ?_
                  rintro u a2344 w2344 hf A2344 (S2344 : St I w0 w2344 [Ch.own (rSlice 3 rInt) [v304] s123.1, Ch.blk g1 [.int .i64 p0.1, va0, va1] 27, Ch.own (rSlice 34 (rSlice 3 rInt)) [v402] s161.1, Ch.own (rSlice 3 rInt) [v403] s161.2.1, F])
                  obtain rfl := lds_one hf
                  clear A2343 S2343 a2343 w2343
                  refine sv A2344 S2344 (opT_cmp (k := .i64) (m := x132) (n := 0) (c := decide (x132 < 0)) rfl rfl rfl rfl rfl) rfl rfl ?_
                  clear A2344 S2344 a2344 w2344;intro a2345 w2345 A2345 S2345
                  refine wpList_nil ?_
                  replace A2345 := A2345.pick' (L' := [(1, .pointer (some ⟨g1, 0, none⟩)), (4, v304), (7, .int .i64 s123.2), (8, v402), (9, v403), (10, .int .i64 s161.2.2), (58, .bool (decide (x132 < 0)))]) ⟨rfl, rfl, rfl, rfl, rfl, rfl, rfl, trivial⟩
                  refine nrm ?_
                  rcases two (decide (x132 < 0)) with hb234 | hb234
                  · replace hm := ifFe hb234 hm
                    refine cnd_false (b := decide (x132 < 0)) A2345 rfl rfl hb234 ?_
                    refine wp_skip ?_
                    refine nrm ?_
                    refine wp_seq ?_
                    refine wp_region_lit ?_
                    refine seq_op A2345 S2345 rfl (opT_load_blk (g := g1) (off := 0) (E := 27) (l := [.int .i64 p0.1, va0, va1]) (d := [.int .i64 p0.1, va0, va1]) (u := .agg #[.int .i64 p0.1, va0, va1]) ti27 rfl rfl rfl rfl rfl rfl) (perm_front (i := 1) rfl) rfl ?_
                    rintro u a2346 w2346 hf A2346 (S2346 : St I w0 w2346 [Ch.blk g1 [.int .i64 p0.1, va0, va1] 27, Ch.own (rSlice 3 rInt) [v304] s123.1, Ch.own (rSlice 34 (rSlice 3 rInt)) [v402] s161.1, Ch.own (rSlice 3 rInt) [v403] s161.2.1, F])
                    obtain rfl := Eq.symm hf
                    clear A2345 S2345 a2345 w2345
                    refine sv A2346 S2346 (opT_move (v := v304) rfl rfl) rfl rfl ?_
                    clear A2346 S2346 a2346 w2346;intro a2347 w2347 A2347 S2347
                    refine sv A2347 S2347 (opT_move (v := .int .i64 s161.2.2) rfl rfl) rfl rfl ?_
                    clear A2347 S2347 a2347 w2347;intro a2348 w2348 A2348 S2348
                    obtain ⟨r225, e326, hm⟩ := bind_some hm
                    refine seq_op A2348 S2348 rfl (OpT.lend (ls := [Ch.own (rSlice 3 rInt) [v304] s123.1]) (gv := fun v => [Ch.own (rSlice 3 rInt) [v] r225]) (fun _ => ⟨dp_own (dp_slice dp_int), trivial⟩) fun J hJ hl hb => opT_call (args := #[.agg #[.int .i64 p0.1, va0, va1], v304, .int .i64 s161.2.2]) (first := #[]) (captured := #[]) en150 rfl rfl rfl (c_s_l12Key (p0.1, p0.2.1, p0.2.2) s123.1 s161.2.2 _ e326 va0 va1 v304 (Rep.rd_mono _ ra0 hJ) (Rep.rd_mono _ ra1 hJ) (hl _ _ _ (List.Mem.head _)))) (perm_front (i := 1) rfl) rfl ?_
                    rintro v428 a2349 w2349 - A2349 (S2349 : St I w0 w2349 [Ch.own (rSlice 3 rInt) [v428] r225, Ch.own (rSlice 3 rInt) [v304] s123.1, Ch.blk g1 [.int .i64 p0.1, va0, va1] 27, Ch.own (rSlice 34 (rSlice 3 rInt)) [v402] s161.1, Ch.own (rSlice 3 rInt) [v403] s161.2.1, F])
                    clear A2348 S2348 a2348 w2348
                    refine sv A2349 S2349 (opT_assign (v := v428) rfl rfl) rfl rfl ?_
                    clear A2349 S2349 a2349 w2349;intro a2350 w2350 A2350 S2350
                    refine wpList_nil ?_
                    replace A2350 := A2350.pick' (L' := [(1, .pointer (some ⟨g1, 0, none⟩)), (4, v304), (7, .int .i64 s123.2), (8, v402), (9, v403), (10, .int .i64 s161.2.2), (11, v428)]) ⟨rfl, rfl, rfl, rfl, rfl, rfl, rfl, trivial⟩
                    refine nrm ?_
                    refine wp_seq ?_
                    refine wp_region_lit ?_
                    refine sv A2350 S2350 (opT_assign (v := .int .i64 (-1)) rfl rfl) rfl rfl ?_
                    clear A2350 S2350 a2350 w2350;intro a2351 w2351 A2351 S2351
                    refine wpList_nil ?_
                    replace A2351 := A2351.pick' (L' := [(1, .pointer (some ⟨g1, 0, none⟩)), (4, v304), (7, .int .i64 s123.2), (8, v402), (9, v403), (10, .int .i64 s161.2.2), (11, v428), (12, .int .i64 (-1))]) ⟨rfl, rfl, rfl, rfl, rfl, rfl, rfl, rfl, trivial⟩
                    refine nrm ?_
                    refine wp_seq ?_
                    refine wp_seq ?_
                    refine wp_region_lit ?_
                    refine sv A2351 S2351 (opT_assign (v := .int .i64 0) rfl rfl) rfl rfl ?_
                    clear A2351 S2351 a2351 w2351;intro a2352 w2352 A2352 S2352
                    refine wpList_nil ?_
                    replace A2352 := A2352.pick' (L' := [(1, .pointer (some ⟨g1, 0, none⟩)), (4, v304), (7, .int .i64 s123.2), (8, v402), (9, v403), (10, .int .i64 s161.2.2), (11, v428), (12, .int .i64 (-1)), (13, .int .i64 0)]) ⟨rfl, rfl, rfl, rfl, rfl, rfl, rfl, rfl, rfl, trivial⟩
                    refine nrm ?_
                    obtain ⟨o130, hl23, hc108⟩ := bindL_some hm
                    refine wp_cut (fun a w => ∃ s177 : (List (List Int)) × Int × Int, o130 = .brk s177 ∧ Agr 99 a [(1, .pointer (some ⟨g1, 0, none⟩)), (4, v304), (7, .int .i64 s123.2), (8, v402), (9, v403), (10, .int .i64 s161.2.2), (11, v428), (12, .int .i64 s177.2.1)] ∧ St I w0 w [Ch.own (rSlice 34 (rSlice 3 rInt)) [v402] s177.1, Ch.blk g1 [.int .i64 p0.1, va0, va1] 27, Ch.own (rSlice 3 rInt) [v304] s123.1, Ch.own (rSlice 3 rInt) [v403] s161.2.1, Ch.own (rSlice 3 rInt) [v428] r225, F]) ?_ ?_
                    · refine wp_block (wp_loopM (R := List Int) (S := (List (List Int)) × Int × Int) (fun s176 a w => Agr 99 a [(1, .pointer (some ⟨g1, 0, none⟩)), (4, v304), (7, .int .i64 s123.2), (8, v402), (9, v403), (10, .int .i64 s161.2.2), (11, v428), (12, .int .i64 s176.2.1), (13, .int .i64 s176.2.2)] ∧ St I w0 w [Ch.own (rSlice 34 (rSlice 3 rInt)) [v402] s176.1, Ch.blk g1 [.int .i64 p0.1, va0, va1] 27, Ch.own (rSlice 3 rInt) [v304] s123.1, Ch.own (rSlice 3 rInt) [v403] s161.2.1, Ch.own (rSlice 3 rInt) [v428] r225, F]) hl23 ?_ ?_)
                      · exact ⟨A2352.pick' ⟨rfl, rfl, rfl, rfl, rfl, rfl, rfl, rfl, rfl, trivial⟩, St.sel S2352 6 [3, 2, 1, 4, 0, 5] rfl rfl⟩
                      · rintro s176 o131 hm hf23 a2405 w2405 ⟨A2405, S2405⟩
                        unfold m_s_l12Classes_l3 at hm
                        refine wp_seq ?_
                        refine wp_seq ?_
                        refine wp_region_lit ?_
                        refine sv A2405 S2405 (opT_move (v := .int .i64 s176.2.2) rfl rfl) rfl rfl ?_
                        clear A2405 S2405 a2405 w2405;intro a2406 w2406 A2406 S2406
                        refine sv A2406 S2406 (opT_move (v := v402) rfl rfl) rfl rfl ?_
                        clear A2406 S2406 a2406 w2406;intro a2407 w2407 A2407 S2407
                        refine sv A2407 S2407 (opT_len_hd (v := v402) (n := s176.1.length) (St.hd S2407 0 rfl).1 Try.underlying23 rfl rfl) rfl rfl ?_
                        clear A2407 S2407 a2407 w2407;intro a2408 w2408 A2408 S2408
                        refine sv A2408 S2408 (opT_cmp (k := .i64) (m := s176.2.2) (n := (s176.1.length : Int)) (c := decide (s176.2.2 < (s176.1.length : Int))) rfl rfl rfl rfl rfl) rfl rfl ?_
                        clear A2408 S2408 a2408 w2408;intro a2409 w2409 A2409 S2409
                        refine wpList_nil ?_
                        replace A2409 := A2409.pick' (L' := [(1, .pointer (some ⟨g1, 0, none⟩)), (4, v304), (7, .int .i64 s123.2), (8, v402), (9, v403), (10, .int .i64 s161.2.2), (11, v428), (12, .int .i64 s176.2.1), (13, .int .i64 s176.2.2), (69, .bool (decide (s176.2.2 < (s176.1.length : Int))))]) ⟨rfl, rfl, rfl, rfl, rfl, rfl, rfl, rfl, rfl, rfl, trivial⟩
                        refine nrm ?_
                        rcases two (decide (s176.2.2 < (s176.1.length : Int))) with hb241 | hb241
                        · replace hm := ifFe hb241 hm
                          refine cnd_false (b := decide (s176.2.2 < (s176.1.length : Int))) A2409 rfl rfl hb241 ?_
                          refine wp_exit ?_
                          refine thenX ?_
                          refine thenX ?_
                          refine ex_in ?_
                          refine nrm ?_
                          exact ⟨_, loopBrk hm hf23, ⟨A2409.pick' ⟨rfl, rfl, rfl, rfl, rfl, rfl, rfl, rfl, trivial⟩, St.sel S2409 6 [0, 1, 2, 3, 4, 5] rfl rfl⟩⟩
                        · replace hm := ifTe hb241 hm
                          refine cnd_true (b := decide (s176.2.2 < (s176.1.length : Int))) A2409 rfl rfl hb241 ?_
                          refine wp_skip ?_
                          refine nrm ?_
                          obtain ⟨s178, hj86, hm⟩ := bind_some hm
                          refine wp_seq_cut (fun a w => Agr 99 a [(1, .pointer (some ⟨g1, 0, none⟩)), (4, v304), (7, .int .i64 s123.2), (8, v402), (9, v403), (10, .int .i64 s161.2.2), (11, v428), (12, .int .i64 s178.2), (13, .int .i64 s176.2.2)] ∧ St I w0 w [Ch.own (rSlice 34 (rSlice 3 rInt)) [v402] s178.1, Ch.blk g1 [.int .i64 p0.1, va0, va1] 27, Ch.own (rSlice 3 rInt) [v304] s123.1, Ch.own (rSlice 3 rInt) [v403] s161.2.1, Ch.own (rSlice 3 rInt) [v428] r225, F]) ?_ ?_
                          · replace hm := hj86
                            refine wp_block ?_
                            refine wp_seq ?_
                            refine wp_region_lit ?_
                            refine sv A2409 S2409 (opT_move (v := v402) rfl rfl) rfl rfl ?_
                            clear A2409 S2409 a2409 w2409;intro a2419 w2419 A2419 S2419
                            refine sv A2419 S2419 (opT_move (v := .int .i64 s176.2.2) rfl rfl) rfl rfl ?_
                            clear A2419 S2419 a2419 w2419;intro a2420 w2420 A2420 S2420
                            obtain ⟨x138, e337, hm⟩ := bind_some hm
                            refine sv A2420 S2420 (opT_index_hd (xs := s176.1) (i := s176.2.2) (n := 1) (St.hd S2420 0 rfl).1 Try.underlying23 ti34 rfl rfl rfl (getI_in e337)) rfl rfl ?_
                            clear A2420 S2420 a2420 w2420;intro a2421 w2421 A2421 S2421
                            refine seq_op A2421 S2421 rfl (opT_borrow (E := 34) (R := rSlice 3 rInt) (xs := s176.1) (y := x138) (i := s176.2.2) (k := 1) e337 ti34 rfl rfl rfl rfl) (perm_front (i := 0) rfl) rfl ?_
                            rintro v440 a2422 w2422 - A2422 (S2422 : St I w0 w2422 [Ch.own (rSlice 3 rInt) [v440] x138, Ch.hole 34 (rSlice 3 rInt) v402 [v440] s176.1 s176.2.2.toNat, Ch.blk g1 [.int .i64 p0.1, va0, va1] 27, Ch.own (rSlice 3 rInt) [v304] s123.1, Ch.own (rSlice 3 rInt) [v403] s161.2.1, Ch.own (rSlice 3 rInt) [v428] r225, F])
                            clear A2421 S2421 a2421 w2421
                            refine sv A2422 S2422 (opT_move (v := v428) rfl rfl) rfl rfl ?_
                            clear A2422 S2422 a2422 w2422;intro a2423 w2423 A2423 S2423
                            obtain ⟨r237, e338, hm⟩ := bind_some hm
                            refine seq_op A2423 S2423 rfl (OpT.lend (ls := [Ch.own (rSlice 3 rInt) [v440] x138, Ch.own (rSlice 3 rInt) [v428] r225]) (gv := fun v => []) (fun _ => trivial) fun J hJ hl hb => opT_call (args := #[v440, v428]) (first := #[]) (captured := #[]) en104 rfl rfl rfl (c_s_l2Cmp x138 r225 _ e338 v440 v428 (hl _ _ _ (List.Mem.head _)) (hl _ _ _ (List.Mem.tail _ (List.Mem.head _))))) (perm_sel [0, 5, 1, 2, 3, 4, 6] (m := 7) rfl rfl) rfl ?_
                            rintro u a2424 w2424 hf A2424 (S2424 : St I w0 w2424 [Ch.own (rSlice 3 rInt) [v440] x138, Ch.own (rSlice 3 rInt) [v428] r225, Ch.hole 34 (rSlice 3 rInt) v402 [v440] s176.1 s176.2.2.toNat, Ch.blk g1 [.int .i64 p0.1, va0, va1] 27, Ch.own (rSlice 3 rInt) [v304] s123.1, Ch.own (rSlice 3 rInt) [v403] s161.2.1, F])
                            obtain rfl := Eq.symm hf
                            clear A2423 S2423 a2423 w2423
                            refine sv A2424 S2424 (opT_cmp (k := .i64) (m := r237) (n := 0) (c := r237 == 0) rfl rfl rfl rfl rfl) rfl rfl ?_
                            clear A2424 S2424 a2424 w2424;intro a2425 w2425 A2425 S2425
                            refine wpList_nil ?_
                            replace A2425 := A2425.pick' (L' := [(1, .pointer (some ⟨g1, 0, none⟩)), (4, v304), (7, .int .i64 s123.2), (8, v402), (9, v403), (10, .int .i64 s161.2.2), (11, v428), (12, .int .i64 s176.2.1), (13, .int .i64 s176.2.2), (78, .bool (r237 == 0))]) ⟨rfl, rfl, rfl, rfl, rfl, rfl, rfl, rfl, rfl, rfl, trivial⟩
                            replace S2425 : St I w0 w2425 [Ch.own (rSlice 3 rInt) [v440] x138, Ch.hole 34 (rSlice 3 rInt) v402 [v440] s176.1 s176.2.2.toNat, Ch.own (rSlice 3 rInt) [v428] r225, Ch.blk g1 [.int .i64 p0.1, va0, va1] 27, Ch.own (rSlice 3 rInt) [v304] s123.1, Ch.own (rSlice 3 rInt) [v403] s161.2.1, F] := St.sel S2425 7 [0, 2, 1, 3, 4, 5, 6] rfl rfl
                            replace S2425 : St I w0 w2425 [Ch.own (rSlice 34 (rSlice 3 rInt)) [v402] (s176.1.set s176.2.2.toNat x138), Ch.own (rSlice 3 rInt) [v428] r225, Ch.blk g1 [.int .i64 p0.1, va0, va1] 27, Ch.own (rSlice 3 rInt) [v304] s123.1, Ch.own (rSlice 3 rInt) [v403] s161.2.1, F] := St.putback S2425
                            refine nrm ?_
                            rcases two (r237 == 0) with hb243 | hb243
                            · replace hm := ifFe hb243 hm
                              refine cnd_false (b := r237 == 0) A2425 rfl rfl hb243 ?_
                              refine wp_skip ?_
                              refine nrmB ?_
                              refine nrm ?_
                              obtain rfl := Option.some.inj hm
                              exact ⟨A2425.pick' ⟨rfl, rfl, rfl, rfl, rfl, rfl, rfl, rfl, rfl, trivial⟩, St.sel S2425 6 [0, 2, 3, 4, 1, 5] rfl rfl⟩
                            · replace hm := ifTe hb243 hm
                              refine cnd_true (b := r237 == 0) A2425 rfl rfl hb243 ?_
                              refine wp_region_lit ?_
                              refine sv A2425 S2425 (opT_move (v := .int .i64 s176.2.2) rfl rfl) rfl rfl ?_
                              clear A2425 S2425 a2425 w2425;intro a2426 w2426 A2426 S2426
                              refine sv A2426 S2426 (opT_assign (v := .int .i64 s176.2.2) rfl rfl) rfl rfl ?_
                              clear A2426 S2426 a2426 w2426;intro a2427 w2427 A2427 S2427
                              refine wpList_nil ?_
                              replace A2427 := A2427.pick' (L' := [(1, .pointer (some ⟨g1, 0, none⟩)), (4, v304), (7, .int .i64 s123.2), (8, v402), (9, v403), (10, .int .i64 s161.2.2), (11, v428), (12, .int .i64 s176.2.2), (13, .int .i64 s176.2.2)]) ⟨rfl, rfl, rfl, rfl, rfl, rfl, rfl, rfl, rfl, trivial⟩
                              refine nrmB ?_
                              refine nrm ?_
                              obtain rfl := Option.some.inj hm
                              exact ⟨A2427.pick' ⟨rfl, rfl, rfl, rfl, rfl, rfl, rfl, rfl, rfl, trivial⟩, St.sel S2427 6 [0, 2, 3, 4, 1, 5] rfl rfl⟩
                          · rintro a2428 w2428 ⟨A2428, S2428⟩
                            refine wp_region_lit ?_
                            refine sv A2428 S2428 (opT_move (v := .int .i64 s176.2.2) rfl rfl) rfl rfl ?_
                            clear A2428 S2428 a2428 w2428;intro a2429 w2429 A2429 S2429
                            refine sv A2429 S2429 (opT_add (m := s176.2.2) (n := 1) rfl rfl rfl) rfl rfl ?_
                            clear A2429 S2429 a2429 w2429;intro a2430 w2430 A2430 S2430
                            refine sv A2430 S2430 (opT_assign (v := .int .i64 (IntKind.i64.wrap (s176.2.2 + 1))) rfl rfl) rfl rfl ?_
                            clear A2430 S2430 a2430 w2430;intro a2431 w2431 A2431 S2431
                            refine wpList_nil ?_
                            replace A2431 := A2431.pick' (L' := [(1, .pointer (some ⟨g1, 0, none⟩)), (4, v304), (7, .int .i64 s123.2), (8, v402), (9, v403), (10, .int .i64 s161.2.2), (11, v428), (12, .int .i64 s178.2), (13, .int .i64 (IntKind.i64.wrap (s176.2.2 + 1)))]) ⟨rfl, rfl, rfl, rfl, rfl, rfl, rfl, rfl, rfl, trivial⟩
                            refine nrm ?_
                            exact ⟨_, (Option.some.inj hm).symm, ⟨A2431.pick' ⟨rfl, rfl, rfl, rfl, rfl, rfl, rfl, rfl, rfl, trivial⟩, St.sel S2431 6 [0, 1, 2, 3, 4, 5] rfl rfl⟩⟩
                    · rintro a2432 w2432 ⟨s177, ho106, A2432, S2432⟩
                      replace hm := loopOut ho106 hc108
                      clear ho106 hc108 hl23
                      refine nrm ?_
                      obtain ⟨s179, hj87, hm⟩ := bind_some hm
                      refine wp_seq_cut (fun a w => ∃ v443 : Value, Agr 99 a [(1, .pointer (some ⟨g1, 0, none⟩)), (4, v304), (7, .int .i64 s123.2), (8, v443), (9, v403), (10, .int .i64 s161.2.2), (12, .int .i64 s179.2)] ∧ St I w0 w [Ch.own (rSlice 34 (rSlice 3 rInt)) [v443] s179.1, Ch.blk g1 [.int .i64 p0.1, va0, va1] 27, Ch.own (rSlice 3 rInt) [v304] s123.1, Ch.own (rSlice 3 rInt) [v403] s161.2.1, F]) ?_ ?_
                      · replace hm := hj87
                        refine wp_seq ?_
                        refine wp_region_lit ?_
                        refine sv A2432 S2432 (opT_move (v := .int .i64 s177.2.1) rfl rfl) rfl rfl ?_
                        clear A2432 S2432 a2432 w2432;intro a2443 w2443 A2443 S2443
                        refine sv A2443 S2443 (opT_cmp (k := .i64) (m := s177.2.1) (n := 0) (c := decide (s177.2.1 < 0)) rfl rfl rfl rfl rfl) rfl rfl ?_
                        clear A2443 S2443 a2443 w2443;intro a2444 w2444 A2444 S2444
                        refine wpList_nil ?_
                        replace A2444 := A2444.pick' (L' := [(1, .pointer (some ⟨g1, 0, none⟩)), (4, v304), (7, .int .i64 s123.2), (8, v402), (9, v403), (10, .int .i64 s161.2.2), (11, v428), (12, .int .i64 s177.2.1), (81, .bool (decide (s177.2.1 < 0)))]) ⟨rfl, rfl, rfl, rfl, rfl, rfl, rfl, rfl, rfl, trivial⟩
                        refine nrm ?_
                        rcases two (decide (s177.2.1 < 0)) with hb245 | hb245
                        · replace hm := ifFe hb245 hm
                          refine cnd_false (b := decide (s177.2.1 < 0)) A2444 rfl rfl hb245 ?_
                          refine wp_skip ?_
                          refine nrm ?_
                          obtain rfl := Option.some.inj hm
                          exact ⟨v402, A2444.pick' ⟨rfl, rfl, rfl, rfl, rfl, rfl, rfl, trivial⟩, St.sel S2444 6 [0, 1, 2, 3, 5] rfl rfl⟩
                        · replace hm := ifTe hb245 hm
                          refine cnd_true (b := decide (s177.2.1 < 0)) A2444 rfl rfl hb245 ?_
                          refine wp_seq ?_
                          refine wp_region_lit ?_
                          refine sv A2444 S2444 (opT_move (v := v402) rfl rfl) rfl rfl ?_
                          clear A2444 S2444 a2444 w2444;intro a2445 w2445 A2445 S2445
                          refine sv A2445 S2445 (opT_len_hd (v := v402) (n := s177.1.length) (St.hd S2445 0 rfl).1 Try.underlying23 rfl rfl) rfl rfl ?_
                          clear A2445 S2445 a2445 w2445;intro a2446 w2446 A2446 S2446
                          refine sv A2446 S2446 (opT_assign (v := .int .i64 (s177.1.length : Int)) rfl rfl) rfl rfl ?_
                          clear A2446 S2446 a2446 w2446;intro a2447 w2447 A2447 S2447
                          refine wpList_nil ?_
                          replace A2447 := A2447.pick' (L' := [(1, .pointer (some ⟨g1, 0, none⟩)), (4, v304), (7, .int .i64 s123.2), (8, v402), (9, v403), (10, .int .i64 s161.2.2), (11, v428), (12, .int .i64 (s177.1.length : Int))]) ⟨rfl, rfl, rfl, rfl, rfl, rfl, rfl, rfl, trivial⟩
                          refine nrm ?_
                          refine wp_region_lit ?_
                          refine sv A2447 S2447 (opT_move (v := v402) rfl rfl) rfl rfl ?_
                          clear A2447 S2447 a2447 w2447;intro a2448 w2448 A2448 S2448
                          refine sv A2448 S2448 (opT_move (v := v428) rfl rfl) rfl rfl ?_
                          clear A2448 S2448 a2448 w2448;intro a2449 w2449 A2449 S2449
                          refine seq_op A2449 S2449 rfl (opT_lit (E := 34) (R := rSlice 3 rInt) [(v428, [v428])] [r225] Try.underlying23 tz34 (by decide) rfl (by decide) (by decide) rfl rfl rfl rfl (us_all ⟨⟨(Hd.cells (St.hd S2449 4 rfl).1), rfl⟩, trivial⟩)) (perm_front (i := 4) rfl) rfl ?_
                          rintro v444 a2450 w2450 - A2450 (S2450 : St I w0 w2450 [Ch.own (rSlice 34 (rSlice 3 rInt)) [v444] ([r225]), Ch.own (rSlice 34 (rSlice 3 rInt)) [v402] s177.1, Ch.blk g1 [.int .i64 p0.1, va0, va1] 27, Ch.own (rSlice 3 rInt) [v304] s123.1, Ch.own (rSlice 3 rInt) [v403] s161.2.1, F])
                          clear A2449 S2449 a2449 w2449
                          obtain ⟨z73, e340, hm⟩ := bind_some hm
                          refine seq_op A2450 S2450 rfl (opT_app (E := 34) (R := rSlice 3 rInt) (s := v402) (u := v444) e340 Try.underlying23 tz34 rfl (by decide) rfl (by decide) rfl rfl rfl) (perm_sel [1, 0, 2, 3, 4, 5] (m := 6) rfl rfl) rfl ?_
                          rintro v445 a2451 w2451 - A2451 (S2451 : St I w0 w2451 [Ch.own (rSlice 34 (rSlice 3 rInt)) [v445] z73, Ch.blk g1 [.int .i64 p0.1, va0, va1] 27, Ch.own (rSlice 3 rInt) [v304] s123.1, Ch.own (rSlice 3 rInt) [v403] s161.2.1, F])
                          clear A2450 S2450 a2450 w2450
                          refine sv A2451 S2451 (opT_assign (v := v445) rfl rfl) rfl rfl ?_
                          clear A2451 S2451 a2451 w2451;intro a2452 w2452 A2452 S2452
                          refine wpList_nil ?_
                          replace A2452 := A2452.pick' (L' := [(1, .pointer (some ⟨g1, 0, none⟩)), (4, v304), (7, .int .i64 s123.2), (8, v445), (9, v403), (10, .int .i64 s161.2.2), (12, .int .i64 (s177.1.length : Int))]) ⟨rfl, rfl, rfl, rfl, rfl, rfl, rfl, trivial⟩
                          refine nrm ?_
                          obtain rfl := Option.some.inj hm
                          exact ⟨v445, A2452.pick' ⟨rfl, rfl, rfl, rfl, rfl, rfl, rfl, trivial⟩, St.sel S2452 5 [0, 1, 2, 3, 4] rfl rfl⟩
                      · rintro a2453 w2453 ⟨v443, A2453, S2453⟩
                        refine wp_region_lit ?_
                        refine sv A2453 S2453 (opT_move (v := v403) rfl rfl) rfl rfl ?_
                        clear A2453 S2453 a2453 w2453;intro a2454 w2454 A2454 S2454
                        refine sv A2454 S2454 (opT_move (v := .int .i64 s179.2) rfl rfl) rfl rfl ?_
                        clear A2454 S2454 a2454 w2454;intro a2455 w2455 A2455 S2455
                        refine seq_op A2455 S2455 rfl (opT_lit_cpy (E := 3) (R := rInt) (S := rInt) [(.int .i64 s179.2, [.int .i64 s179.2])] [s179.2] cpy_int (rd_all ⟨rfl, trivial⟩) Try.underlying34 tz3 (by decide) rfl (by decide) (by decide) rfl rfl rfl rfl (us_all ⟨⟨rfl, rfl⟩, trivial⟩)) (List.Perm.refl _) rfl ?_
                        rintro v446 a2456 w2456 - A2456 (S2456 : St I w0 w2456 [Ch.own (rSlice 3 rInt) [v446] ([s179.2]), Ch.own (rSlice 34 (rSlice 3 rInt)) [v443] s179.1, Ch.blk g1 [.int .i64 p0.1, va0, va1] 27, Ch.own (rSlice 3 rInt) [v304] s123.1, Ch.own (rSlice 3 rInt) [v403] s161.2.1, F])
                        clear A2455 S2455 a2455 w2455
                        obtain ⟨z74, e341, hm⟩ := bind_some hm
                        refine seq_op A2456 S2456 rfl (opT_app (E := 3) (R := rInt) (s := v403) (u := v446) e341 Try.underlying34 tz3 rfl (by decide) rfl (by decide) rfl rfl rfl) (perm_sel [4, 0, 1, 2, 3, 5] (m := 6) rfl rfl) rfl ?_
                        rintro v447 a2457 w2457 - A2457 (S2457 : St I w0 w2457 [Ch.own (rSlice 3 rInt) [v447] z74, Ch.own (rSlice 34 (rSlice 3 rInt)) [v443] s179.1, Ch.blk g1 [.int .i64 p0.1, va0, va1] 27, Ch.own (rSlice 3 rInt) [v304] s123.1, F])
                        clear A2456 S2456 a2456 w2456
                        refine sv A2457 S2457 (opT_assign (v := v447) rfl rfl) rfl rfl ?_
                        clear A2457 S2457 a2457 w2457;intro a2458 w2458 A2458 S2458
                        refine wpList_nil ?_
                        replace A2458 := A2458.pick' (L' := [(1, .pointer (some ⟨g1, 0, none⟩)), (4, v304), (7, .int .i64 s123.2), (8, v443), (9, v447), (10, .int .i64 s161.2.2)]) ⟨rfl, rfl, rfl, rfl, rfl, rfl, trivial⟩
                        refine nrmB ?_
                        refine nrm ?_
                        obtain rfl := Option.some.inj hm
                        exact ⟨v443, v447, A2458.pick' ⟨rfl, rfl, rfl, rfl, rfl, rfl, trivial⟩, St.sel S2458 5 [1, 0, 2, 3, 4] rfl rfl⟩
                  · replace hm := ifTe hb234 hm
                    refine cnd_true (b := decide (x132 < 0)) A2345 rfl rfl hb234 ?_
                    refine wp_seq ?_
                    refine wp_region_lit ?_
                    refine sv A2345 S2345 (opT_move (v := v403) rfl rfl) rfl rfl ?_
                    clear A2345 S2345 a2345 w2345;intro a2459 w2459 A2459 S2459
                    refine seq_op A2459 S2459 rfl (opT_lit_cpy (E := 3) (R := rInt) (S := rInt) [(.int .i64 (-1), [.int .i64 (-1)])] [-1] cpy_int (rd_all ⟨rfl, trivial⟩) Try.underlying34 tz3 (by decide) rfl (by decide) (by decide) rfl rfl rfl rfl (us_all ⟨⟨rfl, rfl⟩, trivial⟩)) (List.Perm.refl _) rfl ?_
                    rintro v448 a2460 w2460 - A2460 (S2460 : St I w0 w2460 [Ch.own (rSlice 3 rInt) [v448] ([-1]), Ch.own (rSlice 3 rInt) [v304] s123.1, Ch.blk g1 [.int .i64 p0.1, va0, va1] 27, Ch.own (rSlice 34 (rSlice 3 rInt)) [v402] s161.1, Ch.own (rSlice 3 rInt) [v403] s161.2.1, F])
                    clear A2459 S2459 a2459 w2459
                    obtain ⟨z75, e342, hm⟩ := bind_some hm
                    refine seq_op A2460 S2460 rfl (opT_app (E := 3) (R := rInt) (s := v403) (u := v448) e342 Try.underlying34 tz3 rfl (by decide) rfl (by decide) rfl rfl rfl) (perm_sel [4, 0, 1, 2, 3, 5] (m := 6) rfl rfl) rfl ?_
                    rintro v449 a2461 w2461 - A2461 (S2461 : St I w0 w2461 [Ch.own (rSlice 3 rInt) [v449] z75, Ch.own (rSlice 3 rInt) [v304] s123.1, Ch.blk g1 [.int .i64 p0.1, va0, va1] 27, Ch.own (rSlice 34 (rSlice 3 rInt)) [v402] s161.1, F])
                    clear A2460 S2460 a2460 w2460
                    refine sv A2461 S2461 (opT_assign (v := v449) rfl rfl) rfl rfl ?_
                    clear A2461 S2461 a2461 w2461;intro a2462 w2462 A2462 S2462
                    refine wpList_nil ?_
                    replace A2462 := A2462.pick' (L' := [(1, .pointer (some ⟨g1, 0, none⟩)), (4, v304), (7, .int .i64 s123.2), (8, v402), (9, v449), (10, .int .i64 s161.2.2)]) ⟨rfl, rfl, rfl, rfl, rfl, rfl, trivial⟩
                    refine nrm ?_
                    refine wp_exit ?_
                    refine thenX ?_
                    refine ex_in ?_
                    refine nrm ?_
                    obtain rfl := Option.some.inj hm
                    exact ⟨v402, v449, A2462.pick' ⟨rfl, rfl, rfl, rfl, rfl, rfl, trivial⟩, St.sel S2462 5 [3, 0, 2, 1, 4] rfl rfl⟩
                · rintro a2463 w2463 ⟨v426, v427, A2463, S2463⟩
                  refine wp_region_lit ?_
                  refine sv A2463 S2463 (opT_move (v := .int .i64 s161.2.2) rfl rfl) rfl rfl ?_
                  clear A2463 S2463 a2463 w2463;intro a2464 w2464 A2464 S2464
                  refine sv A2464 S2464 (opT_add (m := s161.2.2) (n := 1) rfl rfl rfl) rfl rfl ?_
                  clear A2464 S2464 a2464 w2464;intro a2465 w2465 A2465 S2465
                  refine sv A2465 S2465 (opT_assign (v := .int .i64 (IntKind.i64.wrap (s161.2.2 + 1))) rfl rfl) rfl rfl ?_
                  clear A2465 S2465 a2465 w2465;intro a2466 w2466 A2466 S2466
                  refine wpList_nil ?_
                  replace A2466 := A2466.pick' (L' := [(1, .pointer (some ⟨g1, 0, none⟩)), (4, v304), (7, .int .i64 s123.2), (8, v426), (9, v427), (10, .int .i64 (IntKind.i64.wrap (s161.2.2 + 1)))]) ⟨rfl, rfl, rfl, rfl, rfl, rfl, trivial⟩
                  refine nrm ?_
                  exact ⟨_, (Option.some.inj hm).symm, ⟨v426, v427, A2466.pick' ⟨rfl, rfl, rfl, rfl, rfl, rfl, trivial⟩, St.sel S2466 5 [0, 1, 2, 3, 4] rfl rfl⟩⟩
          · rintro a2467 w2467 ⟨s162, ho109, v401, A2467, S2467⟩
            replace hm := loopOut ho109 hc99
            clear ho109 hc99 hl21
            refine nrm ?_
            refine wp_seq ?_
            refine wp_seq ?_
            refine wp_region_lit ?_
            refine sv A2467 S2467 (opT_move (v := v401) rfl rfl) rfl rfl ?_
            clear A2467 S2467 a2467 w2467;intro a2468 w2468 A2468 S2468
            refine sv A2468 S2468 (opT_move (v := v304) rfl rfl) rfl rfl ?_
            clear A2468 S2468 a2468 w2468;intro a2469 w2469 A2469 S2469
            obtain ⟨r238, e343, hm⟩ := bind_some hm
            refine seq_op A2469 S2469 rfl (OpT.lend (ls := [Ch.own (rSlice 3 rInt) [v401] s162.2.1, Ch.own (rSlice 3 rInt) [v304] s123.1]) (gv := fun v => []) (fun _ => trivial) fun J hJ hl hb => opT_call (args := #[v401, v304]) (first := #[]) (captured := #[]) en104 rfl rfl rfl (c_s_l2Cmp s162.2.1 s123.1 _ e343 v401 v304 (hl _ _ _ (List.Mem.head _)) (hl _ _ _ (List.Mem.tail _ (List.Mem.head _))))) (perm_sel [0, 2, 1, 3] (m := 4) rfl rfl) rfl ?_
            rintro u a2470 w2470 hf A2470 (S2470 : St I w0 w2470 [Ch.own (rSlice 3 rInt) [v401] s162.2.1, Ch.own (rSlice 3 rInt) [v304] s123.1, Ch.blk g1 [.int .i64 p0.1, va0, va1] 27, F])
            obtain rfl := Eq.symm hf
            clear A2469 S2469 a2469 w2469
            refine sv A2470 S2470 (opT_cmp (k := .i64) (m := r238) (n := 0) (c := r238 == 0) rfl rfl rfl rfl rfl) rfl rfl ?_
            clear A2470 S2470 a2470 w2470;intro a2471 w2471 A2471 S2471
            refine wpList_nil ?_
            replace A2471 := A2471.pick' (L' := [(1, .pointer (some ⟨g1, 0, none⟩)), (4, v304), (7, .int .i64 s123.2), (9, v401), (95, .bool (r238 == 0))]) ⟨rfl, rfl, rfl, rfl, rfl, trivial⟩
            refine nrm ?_
            rcases two (r238 == 0) with hb246 | hb246
            · replace hm := ifFe hb246 hm
              refine cnd_false (b := r238 == 0) A2471 rfl rfl hb246 ?_
              refine wp_skip ?_
              refine nrm ?_
              refine wp_region_lit ?_
              refine sv A2471 S2471 (opT_move (v := v401) rfl rfl) rfl rfl ?_
              clear A2471 S2471 a2471 w2471;intro a2472 w2472 A2472 S2472
              refine sv A2472 S2472 (opT_assign (v := v401) rfl rfl) rfl rfl ?_
              clear A2472 S2472 a2472 w2472;intro a2473 w2473 A2473 S2473
              refine wpList_nil ?_
              replace A2473 := A2473.pick' (L' := [(1, .pointer (some ⟨g1, 0, none⟩)), (4, v401), (7, .int .i64 s123.2)]) ⟨rfl, rfl, rfl, trivial⟩
              refine nrmB ?_
              refine nrm ?_
              refine wp_region_lit ?_
              refine sv A2473 S2473 (opT_move (v := .int .i64 s123.2) rfl rfl) rfl rfl ?_
              clear A2473 S2473 a2473 w2473;intro a2474 w2474 A2474 S2474
              refine sv A2474 S2474 (opT_add (m := s123.2) (n := 1) rfl rfl rfl) rfl rfl ?_
              clear A2474 S2474 a2474 w2474;intro a2475 w2475 A2475 S2475
              refine sv A2475 S2475 (opT_assign (v := .int .i64 (IntKind.i64.wrap (s123.2 + 1))) rfl rfl) rfl rfl ?_
              clear A2475 S2475 a2475 w2475;intro a2476 w2476 A2476 S2476
              refine wpList_nil ?_
              replace A2476 := A2476.pick' (L' := [(1, .pointer (some ⟨g1, 0, none⟩)), (4, v401), (7, .int .i64 (IntKind.i64.wrap (s123.2 + 1)))]) ⟨rfl, rfl, rfl, trivial⟩
              refine nrm ?_
              exact ⟨_, (Option.some.inj hm).symm, ⟨v401, A2476.pick' ⟨rfl, rfl, rfl, trivial⟩, St.sel S2476 4 [0, 2, 3] rfl rfl⟩⟩
            · replace hm := ifTe hb246 hm
              refine cnd_true (b := r238 == 0) A2471 rfl rfl hb246 ?_
              refine wp_seq ?_
              refine wp_region_lit ?_
              refine sv A2471 S2471 (opT_move (v := v304) rfl rfl) rfl rfl ?_
              clear A2471 S2471 a2471 w2471;intro a2477 w2477 A2477 S2477
              refine sv A2477 S2477 (opT_assign (v := v304) rfl rfl) rfl rfl ?_
              clear A2477 S2477 a2477 w2477;intro a2478 w2478 A2478 S2478
              refine wpList_nil ?_
              replace A2478 := A2478.pick' (L' := [(2, v304)]) ⟨rfl, trivial⟩
              refine nrm ?_
              refine wp_ret ?_
              refine thenR ?_
              refine blkR ?_
              refine thenR ?_
              refine thenR ?_
              refine blkR ?_
              refine thenR ?_
              refine thenR ?_
              replace hm := loopRet hm hf16 hc76
              obtain rfl := Option.some.inj hm
              exact ret_1 A2478 rfl (res_tmp A2478 rfl) ⟨_, rfl, trivial, _, Hp.le.rfl, St.sel (S2478) 4 [1, 3] rfl rfl⟩
    · rintro a2479 w2479 ⟨s124, ho110, v303, A2479, S2479⟩
      replace hm := loopOut ho110 hc76
      clear ho110 hc76 hl16
      refine nrm ?_
      refine wp_seq ?_
      refine wp_region_lit ?_
      refine sv A2479 S2479 (opT_move (v := v303) rfl rfl) rfl rfl ?_
      clear A2479 S2479 a2479 w2479;intro a2480 w2480 A2480 S2480
      refine sv A2480 S2480 (opT_assign (v := v303) rfl rfl) rfl rfl ?_
      clear A2480 S2480 a2480 w2480;intro a2481 w2481 A2481 S2481
      refine wpList_nil ?_
      replace A2481 := A2481.pick' (L' := [(2, v303)]) ⟨rfl, trivial⟩
      refine nrm ?_
      refine wp_ret ?_
      obtain rfl := Option.some.inj hm
      exact ret_1 A2481 rfl (res_tmp A2481 rfl) ⟨_, rfl, trivial, _, Hp.le.rfl, St.sel (S2481) 2 [0, 1] rfl rfl⟩
set_option maxHeartbeats 8000000 in
theorem c_w_markIntSS (p0a : List (List Int)) (p1k : Int) (r : Int × (List (List Int))) (hm : m_w_markIntSS p0a p1k = some r) {I : Hp} {w0 : World} (va0 : Value) : Con Try.prog 56 #[va0, .int .i64 p1k] I w0 [Ch.own (rSlice 34 (rSlice 3 rInt)) [va0] p0a] (fun v => v = .int .i64 r.1) (fun v => [Ch.own (rSlice 34 (rSlice 3 rInt)) [va0] r.2]) := by
  refine con_of_wp (n := 19) [(0, va0), (1, .int .i64 p1k)] Try.func56 rfl rfl (Nat.le_of_ble_eq_true rfl) (args_all ⟨rfl, rfl, trivial⟩) (fun F w a ha hs => ?_) (fun v => ⟨dp_own (dp_slice (dp_slice dp_int)), trivial⟩)
  unfold m_w_markIntSS at hm
  refine wp_seq ?_
  refine wp_region_lit ?_
  refine sv ha hs (opT_assign (v := .int .i64 0) rfl rfl) rfl rfl ?_
  clear ha hs a w;intro a1 w1 A1 S1
  refine wpList_nil ?_
  replace A1 := A1.pick' (L' := [(0, va0), (1, .int .i64 p1k)]) ⟨rfl, rfl, trivial⟩
  refine nrm ?_
  refine wp_seq ?_
  refine wp_seq ?_
  refine wp_region_lit ?_
  refine sv A1 S1 (opT_assign (v := .int .i64 0) rfl rfl) rfl rfl ?_
  clear A1 S1 a1 w1;intro a2 w2 A2 S2
  refine wpList_nil ?_
  replace A2 := A2.pick' (L' := [(0, va0), (1, .int .i64 p1k), (5, .int .i64 0)]) ⟨rfl, rfl, rfl, trivial⟩
  refine nrm ?_
  obtain ⟨o1, hl1, hc1⟩ := bindL_some hm
  refine wp_cut (fun a w => ∃ s4 : (List (List Int)) × Int × Int, o1 = .brk s4 ∧ Agr 19 a [(1, .int .i64 s4.2.1)] ∧ St I w0 w [Ch.own (rSlice 34 (rSlice 3 rInt)) [va0] s4.1, F]) ?_ ?_
  · refine wp_block (wp_loopM (R := Int × (List (List Int))) (S := (List (List Int)) × Int × Int) (fun s3 a w => Agr 19 a [(0, va0), (1, .int .i64 s3.2.1), (5, .int .i64 s3.2.2)] ∧ St I w0 w [Ch.own (rSlice 34 (rSlice 3 rInt)) [va0] s3.1, F]) hl1 ?_ ?_)
    · exact ⟨A2.pick' ⟨rfl, rfl, rfl, trivial⟩, St.sel S2 2 [0, 1] rfl rfl⟩
    · rintro s3 o2 hm hf1 a31 w31 ⟨A31, S31⟩
      unfold m_w_markIntSS_l0 at hm
      refine wp_seq ?_
      refine wp_seq ?_
      refine wp_region_lit ?_
      refine sv A31 S31 (opT_move (v := .int .i64 s3.2.2) rfl rfl) rfl rfl ?_
      clear A31 S31 a31 w31;intro a32 w32 A32 S32
      refine sv A32 S32 (opT_move (v := va0) rfl rfl) rfl rfl ?_
      clear A32 S32 a32 w32;intro a33 w33 A33 S33
      refine sv A33 S33 (opT_len_hd (v := va0) (n := s3.1.length) (St.hd S33 0 rfl).1 Try.underlying23 rfl rfl) rfl rfl ?_
      clear A33 S33 a33 w33;intro a34 w34 A34 S34
      refine sv A34 S34 (opT_cmp (k := .i64) (m := s3.2.2) (n := (s3.1.length : Int)) (c := decide (s3.2.2 < (s3.1.length : Int))) rfl rfl rfl rfl rfl) rfl rfl ?_
      clear A34 S34 a34 w34;intro a35 w35 A35 S35
      refine wpList_nil ?_
      replace A35 := A35.pick' (L' := [(0, va0), (1, .int .i64 s3.2.1), (5, .int .i64 s3.2.2), (9, .bool (decide (s3.2.2 < (s3.1.length : Int))))]) ⟨rfl, rfl, rfl, rfl, trivial⟩
      refine nrm ?_
      rcases two (decide (s3.2.2 < (s3.1.length : Int))) with hb3 | hb3
      · replace hm := ifFe hb3 hm
        refine cnd_false (b := decide (s3.2.2 < (s3.1.length : Int))) A35 rfl rfl hb3 ?_
        refine wp_exit ?_
        refine thenX ?_
        refine thenX ?_
        refine ex_in ?_
        refine nrm ?_
        exact ⟨_, loopBrk hm hf1, ⟨A35.pick' ⟨rfl, trivial⟩, St.sel S35 2 [0, 1] rfl rfl⟩⟩
      · replace hm := ifTe hb3 hm
        refine cnd_true (b := decide (s3.2.2 < (s3.1.length : Int))) A35 rfl rfl hb3 ?_
        refine wp_skip ?_
        refine nrm ?_
        refine wp_seq ?_
        refine wp_block ?_
        refine wp_region_lit ?_
        refine sv A35 S35 (opT_move (v := va0) rfl rfl) rfl rfl ?_
        clear A35 S35 a35 w35;intro a36 w36 A36 S36
        refine sv A36 S36 (opT_move (v := .int .i64 s3.2.2) rfl rfl) rfl rfl ?_
        clear A36 S36 a36 w36;intro a37 w37 A37 S37
        obtain ⟨x3, e5, hm⟩ := bind_some hm
        refine sv A37 S37 (opT_index_hd (xs := s3.1) (i := s3.2.2) (n := 1) (St.hd S37 0 rfl).1 Try.underlying23 ti34 rfl rfl rfl (getI_in e5)) rfl rfl ?_
        clear A37 S37 a37 w37;intro a38 w38 A38 S38
        refine seq_op A38 S38 rfl (opT_borrow (E := 34) (R := rSlice 3 rInt) (xs := s3.1) (y := x3) (i := s3.2.2) (k := 1) e5 ti34 rfl rfl rfl rfl) (perm_front (i := 0) rfl) rfl ?_
        rintro v6 a39 w39 - A39 (S39 : St I w0 w39 [Ch.own (rSlice 3 rInt) [v6] x3, Ch.hole 34 (rSlice 3 rInt) va0 [v6] s3.1 s3.2.2.toNat, F])
        clear A38 S38 a38 w38
        refine sv A39 S39 (opT_move (v := .int .i64 s3.2.1) rfl rfl) rfl rfl ?_
        clear A39 S39 a39 w39;intro a40 w40 A40 S40
        obtain ⟨r6, e6, hm⟩ := bind_some hm
        refine seq_op A40 S40 rfl (opT_call (args := #[v6, .int .i64 s3.2.1]) (first := #[]) (captured := #[]) en102 rfl rfl rfl (c_w_markIntS x3 s3.2.1 _ e6 v6)) (perm_front (i := 0) rfl) rfl ?_
        rintro u a41 w41 hf A41 (S41 : St I w0 w41 [Ch.own (rSlice 3 rInt) [v6] r6.2, Ch.hole 34 (rSlice 3 rInt) va0 [v6] s3.1 s3.2.2.toNat, F])
        obtain rfl := Eq.symm hf
        clear A40 S40 a40 w40
        refine sv A41 S41 (opT_assign (v := .int .i64 r6.1) rfl rfl) rfl rfl ?_
        clear A41 S41 a41 w41;intro a42 w42 A42 S42
        refine wpList_nil ?_
        replace A42 := A42.pick' (L' := [(0, va0), (1, .int .i64 r6.1), (5, .int .i64 s3.2.2)]) ⟨rfl, rfl, rfl, trivial⟩
        replace S42 : St I w0 w42 [Ch.own (rSlice 3 rInt) [v6] r6.2, Ch.hole 34 (rSlice 3 rInt) va0 [v6] s3.1 s3.2.2.toNat, F] := St.sel S42 3 [0, 1, 2] rfl rfl
        replace S42 : St I w0 w42 [Ch.own (rSlice 34 (rSlice 3 rInt)) [va0] (s3.1.set s3.2.2.toNat r6.2), F] := St.putback S42
        refine nrmB ?_
        refine nrm ?_
        refine wp_region_lit ?_
        refine sv A42 S42 (opT_move (v := .int .i64 s3.2.2) rfl rfl) rfl rfl ?_
        clear A42 S42 a42 w42;intro a43 w43 A43 S43
        refine sv A43 S43 (opT_add (m := s3.2.2) (n := 1) rfl rfl rfl) rfl rfl ?_
        clear A43 S43 a43 w43;intro a44 w44 A44 S44
        refine sv A44 S44 (opT_assign (v := .int .i64 (IntKind.i64.wrap (s3.2.2 + 1))) rfl rfl) rfl rfl ?_
        clear A44 S44 a44 w44;intro a45 w45 A45 S45
        refine wpList_nil ?_
        replace A45 := A45.pick' (L' := [(0, va0), (1, .int .i64 r6.1), (5, .int .i64 (IntKind.i64.wrap (s3.2.2 + 1)))]) ⟨rfl, rfl, rfl, trivial⟩
        refine nrm ?_
        exact ⟨_, (Option.some.inj hm).symm, ⟨A45.pick' ⟨rfl, rfl, rfl, trivial⟩, St.sel S45 2 [0, 1] rfl rfl⟩⟩
  · rintro a46 w46 ⟨s4, ho1, A46, S46⟩
    replace hm := loopOut ho1 hc1
    clear ho1 hc1 hl1
    refine nrm ?_
    refine wp_seq ?_
    refine wp_region_lit ?_
    refine sv A46 S46 (opT_move (v := .int .i64 s4.2.1) rfl rfl) rfl rfl ?_
    clear A46 S46 a46 w46;intro a47 w47 A47 S47
    refine sv A47 S47 (opT_assign (v := .int .i64 s4.2.1) rfl rfl) rfl rfl ?_
    clear A47 S47 a47 w47;intro a48 w48 A48 S48
    refine wpList_nil ?_
    replace A48 := A48.pick' (L' := [(4, .int .i64 s4.2.1)]) ⟨rfl, trivial⟩
    refine nrm ?_
    refine wp_ret ?_
    obtain rfl := Option.some.inj hm
    exact ret_1 A48 rfl (res_tmp A48 rfl) ⟨_, rfl, rfl, _, Hp.le.rfl, St.sel (S48) 2 [0, 1] rfl rfl⟩
set_option maxHeartbeats 8000000 in
theorem c_i_Automaton_refine_1 (p0x : List Int) (q0 : List Int) (r : Bool) (hm : m_i_Automaton_refine_1 p0x q0 = some r) {I : Hp} {w0 : World} (va0 : Value) (g0_0 : Nat) (va2 : Value) (ra0 : (rSlice 3 rInt).rd I [va0] p0x) (rb0 : I g0_0 = some (.cells #[va2] 34 (0, 0))) (ra2 : (rSlice 3 rInt).rd I [va2] q0) : Con Try.prog 173 #[va0, .pointer (some ⟨g0_0, 0, none⟩)] I w0 [] (fun v => v = .bool r) (fun v => []) := by
  refine con_of_wp (n := 7) [(0, va0), (1, .pointer (some ⟨g0_0, 0, none⟩))] Try.func173 rfl rfl (Nat.le_of_ble_eq_true rfl) (args_all ⟨rfl, rfl, trivial⟩) (fun F w a ha hs => ?_) (fun v => trivial)
  unfold m_i_Automaton_refine_1 at hm
  refine wp_seq ?_
  refine wp_region_lit ?_
  refine sv ha hs (opT_assign (v := .bool false) rfl rfl) rfl rfl ?_
  clear ha hs a w;intro a1 w1 A1 S1
  refine wpList_nil ?_
  replace A1 := A1.pick' (L' := [(0, va0), (1, .pointer (some ⟨g0_0, 0, none⟩))]) ⟨rfl, rfl, trivial⟩
  refine nrm ?_
  refine wp_seq ?_
  refine wp_region_lit ?_
  refine sv A1 S1 (opT_move (v := va0) rfl rfl) rfl rfl ?_
  clear A1 S1 a1 w1;intro a2 w2 A2 S2
  refine sv A2 S2 (opT_load_fro (g := g0_0) (off := 0) (l := [va2]) (d := [va2]) (u := va2) rb0 ti34 rfl rfl rfl rfl rfl rfl) rfl rfl ?_
  clear A2 S2 a2 w2;intro a3 w3 A3 S3
  obtain ⟨r1, e1, hm⟩ := bind_some hm
  refine seq_op0 A3 S3 (opT_call (args := #[va0, va2]) (first := #[]) (captured := #[]) en109 rfl rfl rfl (c_g_slices_Equal_S_int_int p0x q0 _ e1 va0 va2 ra0 ra2)) rfl rfl ?_
  rintro u a4 w4 hf A4 S4
  obtain rfl := Eq.symm hf
  clear A3 S3 a3 w3
  refine sv A4 S4 (opT_assign (v := .bool r1) rfl rfl) rfl rfl ?_
  clear A4 S4 a4 w4;intro a5 w5 A5 S5
  refine wpList_nil ?_
  replace A5 := A5.pick' (L' := [(3, .bool r1)]) ⟨rfl, trivial⟩
  refine nrm ?_
  refine wp_ret ?_
  obtain rfl := Option.some.inj hm
  exact ret_1 A5 rfl (res_tmp A5 rfl) ⟨_, rfl, rfl, _, Hp.le.rfl, St.sel (S5) 1 [0] rfl rfl⟩
end Go.Proofs.Ytcihbmdppgpmjaa.D
