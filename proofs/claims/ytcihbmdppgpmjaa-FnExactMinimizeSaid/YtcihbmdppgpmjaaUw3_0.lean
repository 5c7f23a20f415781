/- Printed by dec.py: models of functions and the walks that show them. -/
import Derived.Test.YtcihbmdppgpmjaaUw1_2
import Derived.Test.YtcihbmdppgpmjaaUw2_0
set_option linter.unusedVariables false
set_option linter.unusedSimpArgs false
set_option linter.unnecessarySimpa false
set_option maxRecDepth 100000
namespace Go.Proofs.Ytcihbmdppgpmjaa.D
open Go.RowKit
set_option maxHeartbeats 8000000 in
theorem c_i_Automaton_classes (p0a : Int × (List Bool) × (List (List Int))) (r : List Int) (hm : m_i_Automaton_classes p0a = some r) {I : Hp} {w0 : World} (va0 : Value) (va1 : Value) (ra0 : (rSlice 4 rBool).rd I [va0] p0a.2.1) (ra1 : (rSlice 34 (rSlice 3 rInt)).rd I [va1] p0a.2.2) : Con Try.prog 110 #[.agg #[.int .i64 p0a.1, va0, va1]] I w0 [] (fun v => True) (fun v => [Ch.own (rSlice 3 rInt) [v] r]) := by
  refine con_of_wp (n := 49) [(0, .agg #[.int .i64 p0a.1, va0, va1])] Try.func110 rfl rfl (Nat.le_of_ble_eq_true rfl) (args_all ⟨rfl, trivial⟩) (fun F w a ha hs => ?_) (fun v => ⟨dp_own (dp_slice dp_int), trivial⟩)
  unfold m_i_Automaton_classes at hm
  refine wp_seq ?_
  refine wp_region_lit ?_
  refine seq_op ha hs rfl (opT_box (u := .agg #[.int .i64 p0a.1, va0, va1]) (l := [.int .i64 p0a.1, va0, va1]) rfl rfl rfl) (List.Perm.refl _) rfl ?_
  rintro _ a1 w1 ⟨g1, rfl⟩ A1 (S1 : St I w0 w1 [Ch.blk g1 [.int .i64 p0a.1, va0, va1] 27, F])
  clear ha hs a w
  refine sv A1 S1 (opT_assign (v := .slice none 0 0) rfl rfl) rfl rfl ?_
  clear A1 S1 a1 w1;intro a2 w2 A2 S2
  refine wpList_nil ?_
  replace A2 := A2.pick' (L' := [(1, .pointer (some ⟨g1, 0, none⟩))]) ⟨rfl, trivial⟩
  refine nrm ?_
  refine wp_seq ?_
  refine wp_region_lit ?_
  refine seq_op A2 S2 rfl (opT_lit0 (E := 3) (R := rInt) Try.underlying34 ti3 rfl) (List.Perm.refl _) rfl ?_
  rintro v1 a3 w3 - A3 (S3 : St I w0 w3 [Ch.own (rSlice 3 rInt) [v1] ([] : List Int), Ch.blk g1 [.int .i64 p0a.1, va0, va1] 27, F])
  clear A2 S2 a2 w2
  refine sv A3 S3 (opT_assign (v := v1) rfl rfl) rfl rfl ?_
  clear A3 S3 a3 w3;intro a4 w4 A4 S4
  refine wpList_nil ?_
  replace A4 := A4.pick' (L' := [(1, .pointer (some ⟨g1, 0, none⟩)), (3, v1)]) ⟨rfl, rfl, trivial⟩
  refine nrm ?_
  refine wp_seq ?_
  refine wp_seq ?_
  refine wp_region_lit ?_
  refine seq_op A4 S4 rfl (opT_load_blk (g := g1) (off := 0) (E := 27) (l := [.int .i64 p0a.1, va0, va1]) (d := [.int .i64 p0a.1, va0, va1]) (u := .agg #[.int .i64 p0a.1, va0, va1]) ti27 rfl rfl rfl rfl rfl rfl) (perm_front (i := 1) rfl) rfl ?_
  rintro u a5 w5 hf A5 (S5 : St I w0 w5 [Ch.blk g1 [.int .i64 p0a.1, va0, va1] 27, Ch.own (rSlice 3 rInt) [v1] ([] : List Int), F])
  obtain rfl := Eq.symm hf
  clear A4 S4 a4 w4
  obtain ⟨r1, e1, hm⟩ := bind_some hm
  refine seq_op A5 S5 rfl (opT_call (args := #[.agg #[.int .i64 p0a.1, va0, va1]]) (first := #[]) (captured := #[]) en96 rfl rfl rfl (c_i_Automaton_live (p0a.1, p0a.2.1, p0a.2.2) _ e1 va0 va1 ra0 ra1)) (List.Perm.refl _) rfl ?_
  rintro v2 a6 w6 - A6 (S6 : St I w0 w6 [Ch.own (rSlice 4 rBool) [v2] r1, Ch.blk g1 [.int .i64 p0a.1, va0, va1] 27, Ch.own (rSlice 3 rInt) [v1] ([] : List Int), F])
  clear A5 S5 a5 w5
  refine sv A6 S6 (opT_len_hd (v := v2) (n := r1.length) (St.hd S6 0 rfl).1 Try.underlying22 rfl rfl) rfl rfl ?_
  clear A6 S6 a6 w6;intro a7 w7 A7 S7
  refine sv A7 S7 (opT_move (v := .int .i64 0) rfl rfl) rfl rfl ?_
  clear A7 S7 a7 w7;intro a8 w8 A8 S8
  refine wpList_nil ?_
  replace A8 := A8.pick' (L' := [(1, .pointer (some ⟨g1, 0, none⟩)), (3, v1), (11, v2), (12, .int .i64 (r1.length : Int)), (13, .int .i64 0)]) ⟨rfl, rfl, rfl, rfl, rfl, trivial⟩
  refine nrm ?_
  obtain ⟨o3, hl1, hc3⟩ := bindL_some hm
  refine wp_cut (fun a w => ∃ s6 : (List Int) × Int, o3 = .brk s6 ∧ ∃ v30 : Value, Agr 49 a [(1, .pointer (some ⟨g1, 0, none⟩)), (3, v30)] ∧ St I w0 w [Ch.own (rSlice 3 rInt) [v30] s6.1, Ch.blk g1 [.int .i64 p0a.1, va0, va1] 27, F]) ?_ ?_
  · refine wp_block (wp_loopM (R := List Int) (S := (List Int) × Int) (fun s5 a w => ∃ v31 : Value, Agr 49 a [(1, .pointer (some ⟨g1, 0, none⟩)), (3, v31), (11, v2), (12, .int .i64 (r1.length : Int)), (13, .int .i64 s5.2)] ∧ St I w0 w [Ch.own (rSlice 3 rInt) [v31] s5.1, Ch.blk g1 [.int .i64 p0a.1, va0, va1] 27, Ch.own (rSlice 4 rBool) [v2] r1, F]) hl1 ?_ ?_)
    · exact ⟨v1, A8.pick' ⟨rfl, rfl, rfl, rfl, rfl, trivial⟩, St.sel S8 4 [2, 1, 0, 3] rfl rfl⟩
    · rintro s5 o4 hm hf1 a121 w121 ⟨v31, A121, S121⟩
      unfold m_i_Automaton_classes_l0 at hm
      refine wp_seq ?_
      refine wp_region_lit ?_
      refine sv A121 S121 (opT_cmp (k := .i64) (m := s5.2) (n := (r1.length : Int)) (c := decide (s5.2 < (r1.length : Int))) rfl rfl rfl rfl rfl) rfl rfl ?_
      clear A121 S121 a121 w121;intro a122 w122 A122 S122
      refine wpList_nil ?_
      replace A122 := A122.pick' (L' := [(1, .pointer (some ⟨g1, 0, none⟩)), (3, v31), (11, v2), (12, .int .i64 (r1.length : Int)), (13, .int .i64 s5.2), (14, .bool (decide (s5.2 < (r1.length : Int))))]) ⟨rfl, rfl, rfl, rfl, rfl, rfl, trivial⟩
      refine nrm ?_
      refine wp_seq ?_
      rcases two (decide (s5.2 < (r1.length : Int))) with hb11 | hb11
      · replace hm := ifFe hb11 hm
        refine cnd_false (b := decide (s5.2 < (r1.length : Int))) A122 rfl rfl hb11 ?_
        refine wp_exit ?_
        refine thenX ?_
        refine thenX ?_
        refine ex_in ?_
        refine nrm ?_
        exact ⟨_, loopBrk hm hf1, ⟨v31, A122.pick' ⟨rfl, rfl, trivial⟩, St.sel S122 4 [0, 1, 3] rfl rfl⟩⟩
      · replace hm := ifTe hb11 hm
        refine cnd_true (b := decide (s5.2 < (r1.length : Int))) A122 rfl rfl hb11 ?_
        refine wp_skip ?_
        refine nrm ?_
        obtain ⟨s7, hj3, hm⟩ := bind_some hm
        refine wp_seq_cut (fun a w => ∃ v38 : Value, Agr 49 a [(1, .pointer (some ⟨g1, 0, none⟩)), (3, v38), (11, v2), (12, .int .i64 (r1.length : Int)), (13, .int .i64 s5.2)] ∧ St I w0 w [Ch.own (rSlice 3 rInt) [v38] s7, Ch.blk g1 [.int .i64 p0a.1, va0, va1] 27, Ch.own (rSlice 4 rBool) [v2] r1, F]) ?_ ?_
        · replace hm := hj3
          refine wp_block ?_
          refine wp_seq ?_
          refine wp_region_lit ?_
          refine sv A122 S122 (opT_move (v := .int .i64 s5.2) rfl rfl) rfl rfl ?_
          clear A122 S122 a122 w122;intro a149 w149 A149 S149
          obtain ⟨x11, e27, hm⟩ := bind_some hm
          refine sv A149 S149 (opT_index_hd (xs := r1) (i := s5.2) (n := 1) (St.hd S149 2 rfl).1 Try.underlying22 ti4 rfl rfl rfl (getI_in e27)) rfl rfl ?_
          clear A149 S149 a149 w149;intro a150 w150 A150 S150
          refine seq_op A150 S150 rfl (opT_load_own (E := 4) (R := rBool) (S := rBool) (xs := r1) (a := x11) (i := s5.2) (k := 1) (off := 0) (f := fun (x : Bool) => x) sh_bool e27 Fld.self ti4 rfl rfl rfl rfl rfl) (perm_front (i := 2) rfl) rfl ?_
          rintro u a151 w151 hf A151 (S151 : St I w0 w151 [Ch.own (rSlice 4 rBool) [v2] r1, Ch.own (rSlice 3 rInt) [v31] s5.1, Ch.blk g1 [.int .i64 p0a.1, va0, va1] 27, F])
          obtain rfl := lds_one hf
          clear A150 S150 a150 w150
          refine sv A151 S151 (opT_assign (v := .int .i64 s5.2) rfl rfl) rfl rfl ?_
          clear A151 S151 a151 w151;intro a152 w152 A152 S152
          refine sv A152 S152 (opT_assign (v := .bool x11) rfl rfl) rfl rfl ?_
          clear A152 S152 a152 w152;intro a153 w153 A153 S153
          refine wpList_nil ?_
          replace A153 := A153.pick' (L' := [(1, .pointer (some ⟨g1, 0, none⟩)), (3, v31), (4, .int .i64 s5.2), (5, .bool x11), (11, v2), (12, .int .i64 (r1.length : Int)), (13, .int .i64 s5.2)]) ⟨rfl, rfl, rfl, rfl, rfl, rfl, rfl, trivial⟩
          refine nrm ?_
          refine wp_block ?_
          refine wp_seq ?_
          refine wp_region_lit ?_
          refine sv A153 S153 (opT_move (v := .bool x11) rfl rfl) rfl rfl ?_
          clear A153 S153 a153 w153;intro a154 w154 A154 S154
          refine sv A154 S154 (opT_not (b := x11) rfl rfl) rfl rfl ?_
          clear A154 S154 a154 w154;intro a155 w155 A155 S155
          refine sv A155 S155 (opT_assign (v := .bool (!x11)) rfl rfl) rfl rfl ?_
          clear A155 S155 a155 w155;intro a156 w156 A156 S156
          refine wpList_nil ?_
          replace A156 := A156.pick' (L' := [(1, .pointer (some ⟨g1, 0, none⟩)), (3, v31), (4, .int .i64 s5.2), (11, v2), (12, .int .i64 (r1.length : Int)), (13, .int .i64 s5.2), (21, .bool (!x11))]) ⟨rfl, rfl, rfl, rfl, rfl, rfl, rfl, trivial⟩
          refine nrm ?_
          rcases two (x11) with hb14 | hb14
          · replace hm := ifFe hb14 hm
            refine cnd_true (b := !x11) A156 rfl rfl (notT hb14) ?_
            refine wp_region_lit ?_
            refine sv A156 S156 (opT_move (v := v31) rfl rfl) rfl rfl ?_
            clear A156 S156 a156 w156;intro a157 w157 A157 S157
            refine seq_op A157 S157 rfl (opT_lit_cpy (E := 3) (R := rInt) (S := rInt) [(.int .i64 (-1), [.int .i64 (-1)])] [-1] cpy_int (rd_all ⟨rfl, trivial⟩) Try.underlying34 tz3 (by decide) rfl (by decide) (by decide) rfl rfl rfl rfl (us_all ⟨⟨rfl, rfl⟩, trivial⟩)) (List.Perm.refl _) rfl ?_
            rintro v39 a158 w158 - A158 (S158 : St I w0 w158 [Ch.own (rSlice 3 rInt) [v39] ([-1]), Ch.own (rSlice 4 rBool) [v2] r1, Ch.own (rSlice 3 rInt) [v31] s5.1, Ch.blk g1 [.int .i64 p0a.1, va0, va1] 27, F])
            clear A157 S157 a157 w157
            obtain ⟨z16, e28, hm⟩ := bind_some hm
            refine seq_op A158 S158 rfl (opT_app (E := 3) (R := rInt) (s := v31) (u := v39) e28 Try.underlying34 tz3 rfl (by decide) rfl (by decide) rfl rfl rfl) (perm_sel [2, 0, 1, 3, 4] (m := 5) rfl rfl) rfl ?_
            rintro v40 a159 w159 - A159 (S159 : St I w0 w159 [Ch.own (rSlice 3 rInt) [v40] z16, Ch.own (rSlice 4 rBool) [v2] r1, Ch.blk g1 [.int .i64 p0a.1, va0, va1] 27, F])
            clear A158 S158 a158 w158
            refine sv A159 S159 (opT_assign (v := v40) rfl rfl) rfl rfl ?_
            clear A159 S159 a159 w159;intro a160 w160 A160 S160
            refine wpList_nil ?_
            replace A160 := A160.pick' (L' := [(1, .pointer (some ⟨g1, 0, none⟩)), (3, v40), (11, v2), (12, .int .i64 (r1.length : Int)), (13, .int .i64 s5.2)]) ⟨rfl, rfl, rfl, rfl, rfl, trivial⟩
            refine nrmB ?_
            refine nrmB ?_
            refine nrm ?_
            obtain rfl := Option.some.inj hm
            exact ⟨v40, A160.pick' ⟨rfl, rfl, rfl, rfl, rfl, trivial⟩, St.sel S160 4 [0, 2, 1, 3] rfl rfl⟩
          · replace hm := ifTe hb14 hm
            refine cnd_false (b := !x11) A156 rfl rfl (notF hb14) ?_
            refine wp_seq ?_
            refine wp_region_lit ?_
            refine sv A156 S156 (opT_field_addr (g := g1) (b := 0) tf27_1 rfl rfl) rfl rfl ?_
            clear A156 S156 a156 w156;intro a161 w161 A161 S161
            refine seq_op A161 S161 rfl (opT_load_blk (g := g1) (off := 1) (E := 27) (l := [.int .i64 p0a.1, va0, va1]) (d := [va0]) (u := va0) ti22 rfl rfl rfl rfl rfl rfl) (perm_front (i := 2) rfl) rfl ?_
            rintro u a162 w162 hf A162 (S162 : St I w0 w162 [Ch.blk g1 [.int .i64 p0a.1, va0, va1] 27, Ch.own (rSlice 4 rBool) [v2] r1, Ch.own (rSlice 3 rInt) [v31] s5.1, F])
            obtain rfl := Eq.symm hf
            clear A161 S161 a161 w161
            refine sv A162 S162 (opT_move (v := .int .i64 s5.2) rfl rfl) rfl rfl ?_
            clear A162 S162 a162 w162;intro a163 w163 A163 S163
            obtain ⟨x12, e29, hm⟩ := bind_some hm
            refine sv A163 S163 (opT_index_hd (xs := p0a.2.1) (i := s5.2) (n := 1) (Hd.of_rd ra0) Try.underlying22 ti4 rfl rfl rfl (getI_in e29)) rfl rfl ?_
            clear A163 S163 a163 w163;intro a164 w164 A164 S164
            refine seq_op0 A164 S164 (opT_load_el (S := rBool) (xs := p0a.2.1) (a := x12) (i := s5.2) (k := 1) (off := 0) (f := fun (x : Bool) => x) ra0 e29 Fld.self ti4 rfl rfl rfl rfl rfl) rfl rfl ?_
            rintro u a165 w165 hf A165 S165
            obtain rfl := lds_one hf
            clear A164 S164 a164 w164
            refine sv A165 S165 (opT_assign (v := .bool x12) rfl rfl) rfl rfl ?_
            clear A165 S165 a165 w165;intro a166 w166 A166 S166
            refine wpList_nil ?_
            replace A166 := A166.pick' (L' := [(1, .pointer (some ⟨g1, 0, none⟩)), (3, v31), (11, v2), (12, .int .i64 (r1.length : Int)), (13, .int .i64 s5.2), (27, .bool x12)]) ⟨rfl, rfl, rfl, rfl, rfl, rfl, trivial⟩
            refine nrm ?_
            rcases two (x12) with hb15 | hb15
            · replace hm := ifFe hb15 hm
              refine cnd_false (b := x12) A166 rfl rfl hb15 ?_
              refine wp_region_lit ?_
              refine sv A166 S166 (opT_move (v := v31) rfl rfl) rfl rfl ?_
              clear A166 S166 a166 w166;intro a167 w167 A167 S167
              refine seq_op A167 S167 rfl (opT_lit_cpy (E := 3) (R := rInt) (S := rInt) [(.int .i64 0, [.int .i64 0])] [0] cpy_int (rd_all ⟨rfl, trivial⟩) Try.underlying34 tz3 (by decide) rfl (by decide) (by decide) rfl rfl rfl rfl (us_all ⟨⟨rfl, rfl⟩, trivial⟩)) (List.Perm.refl _) rfl ?_
              rintro v41 a168 w168 - A168 (S168 : St I w0 w168 [Ch.own (rSlice 3 rInt) [v41] ([0]), Ch.blk g1 [.int .i64 p0a.1, va0, va1] 27, Ch.own (rSlice 4 rBool) [v2] r1, Ch.own (rSlice 3 rInt) [v31] s5.1, F])
              clear A167 S167 a167 w167
              obtain ⟨z17, e30, hm⟩ := bind_some hm
              refine seq_op A168 S168 rfl (opT_app (E := 3) (R := rInt) (s := v31) (u := v41) e30 Try.underlying34 tz3 rfl (by decide) rfl (by decide) rfl rfl rfl) (perm_sel [3, 0, 1, 2, 4] (m := 5) rfl rfl) rfl ?_
              rintro v42 a169 w169 - A169 (S169 : St I w0 w169 [Ch.own (rSlice 3 rInt) [v42] z17, Ch.blk g1 [.int .i64 p0a.1, va0, va1] 27, Ch.own (rSlice 4 rBool) [v2] r1, F])
              clear A168 S168 a168 w168
              refine sv A169 S169 (opT_assign (v := v42) rfl rfl) rfl rfl ?_
              clear A169 S169 a169 w169;intro a170 w170 A170 S170
              refine wpList_nil ?_
              replace A170 := A170.pick' (L' := [(1, .pointer (some ⟨g1, 0, none⟩)), (3, v42), (11, v2), (12, .int .i64 (r1.length : Int)), (13, .int .i64 s5.2)]) ⟨rfl, rfl, rfl, rfl, rfl, trivial⟩
              refine nrmB ?_
              refine nrmB ?_
              refine nrm ?_
              obtain rfl := Option.some.inj hm
              exact ⟨v42, A170.pick' ⟨rfl, rfl, rfl, rfl, rfl, trivial⟩, St.sel S170 4 [0, 1, 2, 3] rfl rfl⟩
            · replace hm := ifTe hb15 hm
              refine cnd_true (b := x12) A166 rfl rfl hb15 ?_
              refine wp_region_lit ?_
              refine sv A166 S166 (opT_move (v := v31) rfl rfl) rfl rfl ?_
              clear A166 S166 a166 w166;intro a171 w171 A171 S171
              refine seq_op A171 S171 rfl (opT_lit_cpy (E := 3) (R := rInt) (S := rInt) [(.int .i64 1, [.int .i64 1])] [1] cpy_int (rd_all ⟨rfl, trivial⟩) Try.underlying34 tz3 (by decide) rfl (by decide) (by decide) rfl rfl rfl rfl (us_all ⟨⟨rfl, rfl⟩, trivial⟩)) (List.Perm.refl _) rfl ?_
              rintro v43 a172 w172 - A172 (S172 : St I w0 w172 [Ch.own (rSlice 3 rInt) [v43] ([1]), Ch.blk g1 [.int .i64 p0a.1, va0, va1] 27, Ch.own (rSlice 4 rBool) [v2] r1, Ch.own (rSlice 3 rInt) [v31] s5.1, F])
              clear A171 S171 a171 w171
              obtain ⟨z18, e31, hm⟩ := bind_some hm
              refine seq_op A172 S172 rfl (opT_app (E := 3) (R := rInt) (s := v31) (u := v43) e31 Try.underlying34 tz3 rfl (by decide) rfl (by decide) rfl rfl rfl) (perm_sel [3, 0, 1, 2, 4] (m := 5) rfl rfl) rfl ?_
              rintro v44 a173 w173 - A173 (S173 : St I w0 w173 [Ch.own (rSlice 3 rInt) [v44] z18, Ch.blk g1 [.int .i64 p0a.1, va0, va1] 27, Ch.own (rSlice 4 rBool) [v2] r1, F])
              clear A172 S172 a172 w172
              refine sv A173 S173 (opT_assign (v := v44) rfl rfl) rfl rfl ?_
              clear A173 S173 a173 w173;intro a174 w174 A174 S174
              refine wpList_nil ?_
              replace A174 := A174.pick' (L' := [(1, .pointer (some ⟨g1, 0, none⟩)), (3, v44), (11, v2), (12, .int .i64 (r1.length : Int)), (13, .int .i64 s5.2)]) ⟨rfl, rfl, rfl, rfl, rfl, trivial⟩
              refine nrmB ?_
              refine nrmB ?_
              refine nrm ?_
              obtain rfl := Option.some.inj hm
              exact ⟨v44, A174.pick' ⟨rfl, rfl, rfl, rfl, rfl, trivial⟩, St.sel S174 4 [0, 1, 2, 3] rfl rfl⟩
        · rintro a175 w175 ⟨v38, A175, S175⟩
          refine wp_region_lit ?_
          refine sv A175 S175 (opT_add (m := s5.2) (n := 1) rfl rfl rfl) rfl rfl ?_
          clear A175 S175 a175 w175;intro a176 w176 A176 S176
          refine sv A176 S176 (opT_move (v := .int .i64 (IntKind.i64.wrap (s5.2 + 1))) rfl rfl) rfl rfl ?_
          clear A176 S176 a176 w176;intro a177 w177 A177 S177
          refine wpList_nil ?_
          replace A177 := A177.pick' (L' := [(1, .pointer (some ⟨g1, 0, none⟩)), (3, v38), (11, v2), (12, .int .i64 (r1.length : Int)), (13, .int .i64 (IntKind.i64.wrap (s5.2 + 1)))]) ⟨rfl, rfl, rfl, rfl, rfl, trivial⟩
          refine nrm ?_
          exact ⟨_, (Option.some.inj hm).symm, ⟨v38, A177.pick' ⟨rfl, rfl, rfl, rfl, rfl, trivial⟩, St.sel S177 4 [0, 1, 2, 3] rfl rfl⟩⟩
  · rintro a178 w178 ⟨s6, ho4, v30, A178, S178⟩
    replace hm := loopOut ho4 hc3
    clear ho4 hc3 hl1
    refine nrm ?_
    refine wp_seq ?_
    refine wp_region_lit ?_
    refine sv A178 S178 (opT_assign (v := .int .i64 (-1)) rfl rfl) rfl rfl ?_
    clear A178 S178 a178 w178;intro a179 w179 A179 S179
    refine wpList_nil ?_
    replace A179 := A179.pick' (L' := [(1, .pointer (some ⟨g1, 0, none⟩)), (3, v30), (6, .int .i64 (-1))]) ⟨rfl, rfl, rfl, trivial⟩
    refine nrm ?_
    obtain ⟨o6, hl2, hc5⟩ := bindL_some hm
    refine wp_cut (fun a w => ∃ s11 : (List Int) × Int, o6 = .brk s11 ∧ Agr 49 a [] ∧ St I w0 w [F]) ?_ ?_
    · refine wp_block (wp_loopM (R := List Int) (S := (List Int) × Int) (fun s10 a w => ∃ v48 : Value, Agr 49 a [(1, .pointer (some ⟨g1, 0, none⟩)), (3, v48), (6, .int .i64 s10.2)] ∧ St I w0 w [Ch.own (rSlice 3 rInt) [v48] s10.1, Ch.blk g1 [.int .i64 p0a.1, va0, va1] 27, F]) hl2 ?_ ?_)
      · exact ⟨v30, A179.pick' ⟨rfl, rfl, rfl, trivial⟩, St.sel S179 3 [0, 1, 2] rfl rfl⟩
      · rintro s10 o7 hm hf2 a214 w214 ⟨v48, A214, S214⟩
        unfold m_i_Automaton_classes_l1 at hm
        refine wp_block ?_
        refine wp_seq ?_
        refine wp_region_lit ?_
        refine seq_op A214 S214 rfl (opT_load_blk (g := g1) (off := 0) (E := 27) (l := [.int .i64 p0a.1, va0, va1]) (d := [.int .i64 p0a.1, va0, va1]) (u := .agg #[.int .i64 p0a.1, va0, va1]) ti27 rfl rfl rfl rfl rfl rfl) (perm_front (i := 1) rfl) rfl ?_
        rintro u a215 w215 hf A215 (S215 : St I w0 w215 [Ch.blk g1 [.int .i64 p0a.1, va0, va1] 27, Ch.own (rSlice 3 rInt) [v48] s10.1, F])
        obtain rfl := Eq.symm hf
        clear A214 S214 a214 w214
        refine sv A215 S215 (opT_move (v := v48) rfl rfl) rfl rfl ?_
        clear A215 S215 a215 w215;intro a216 w216 A216 S216
        obtain ⟨r4, e34, hm⟩ := bind_some hm
        refine seq_op A216 S216 rfl (OpT.lend (ls := [Ch.own (rSlice 3 rInt) [v48] s10.1]) (gv := fun v => [Ch.own (rSlice 3 rInt) [vg v [0]] r4.1]) (fun _ => ⟨dp_own (dp_slice dp_int), trivial⟩) fun J hJ hl hb => opT_call (args := #[.agg #[.int .i64 p0a.1, va0, va1], v48]) (first := #[]) (captured := #[]) en151 rfl rfl rfl (c_i_Automaton_refine (p0a.1, p0a.2.1, p0a.2.2) s10.1 _ e34 va0 va1 v48 (Rep.rd_mono _ ra0 hJ) (Rep.rd_mono _ ra1 hJ) (hl _ _ _ (List.Mem.head _)))) (perm_front (i := 1) rfl) rfl ?_
        rintro u a217 w217 ⟨v49, rfl⟩ A217 (S217 : St I w0 w217 [Ch.own (rSlice 3 rInt) [v49] r4.1, Ch.own (rSlice 3 rInt) [v48] s10.1, Ch.blk g1 [.int .i64 p0a.1, va0, va1] 27, F])
        clear A216 S216 a216 w216
        refine sv A217 S217 (opT_move (v := .tuple #[v49, .int .i64 r4.2]) rfl rfl) rfl rfl ?_
        clear A217 S217 a217 w217;intro a218 w218 A218 S218
        refine sv A218 S218 (opT_extract (vs := #[v49, .int .i64 r4.2]) (v := v49) rfl rfl rfl) rfl rfl ?_
        clear A218 S218 a218 w218;intro a219 w219 A219 S219
        refine sv A219 S219 (opT_extract (vs := #[v49, .int .i64 r4.2]) (v := .int .i64 r4.2) rfl rfl rfl) rfl rfl ?_
        clear A219 S219 a219 w219;intro a220 w220 A220 S220
        refine sv A220 S220 (opT_assign (v := v49) rfl rfl) rfl rfl ?_
        clear A220 S220 a220 w220;intro a221 w221 A221 S221
        refine sv A221 S221 (opT_assign (v := .int .i64 r4.2) rfl rfl) rfl rfl ?_
        clear A221 S221 a221 w221;intro a222 w222 A222 S222
        refine wpList_nil ?_
        replace A222 := A222.pick' (L' := [(1, .pointer (some ⟨g1, 0, none⟩)), (6, .int .i64 s10.2), (7, v49), (8, .int .i64 r4.2)]) ⟨rfl, rfl, rfl, rfl, trivial⟩
        refine nrm ?_
        refine wp_seq ?_
        refine wp_seq ?_
        refine wp_region_lit ?_
        refine sv A222 S222 (opT_move (v := .int .i64 r4.2) rfl rfl) rfl rfl ?_
        clear A222 S222 a222 w222;intro a223 w223 A223 S223
        refine sv A223 S223 (opT_move (v := .int .i64 s10.2) rfl rfl) rfl rfl ?_
        clear A223 S223 a223 w223;intro a224 w224 A224 S224
        refine sv A224 S224 (opT_cmp (k := .i64) (m := r4.2) (n := s10.2) (c := r4.2 == s10.2) rfl rfl rfl rfl rfl) rfl rfl ?_
        clear A224 S224 a224 w224;intro a225 w225 A225 S225
        refine wpList_nil ?_
        replace A225 := A225.pick' (L' := [(1, .pointer (some ⟨g1, 0, none⟩)), (7, v49), (8, .int .i64 r4.2), (45, .bool (r4.2 == s10.2))]) ⟨rfl, rfl, rfl, rfl, trivial⟩
        refine nrm ?_
        rcases two (r4.2 == s10.2) with hb18 | hb18
        · replace hm := ifFe hb18 hm
          refine cnd_false (b := r4.2 == s10.2) A225 rfl rfl hb18 ?_
          refine wp_skip ?_
          refine nrm ?_
          refine wp_region_lit ?_
          refine sv A225 S225 (opT_move (v := v49) rfl rfl) rfl rfl ?_
          clear A225 S225 a225 w225;intro a226 w226 A226 S226
          refine sv A226 S226 (opT_move (v := .int .i64 r4.2) rfl rfl) rfl rfl ?_
          clear A226 S226 a226 w226;intro a227 w227 A227 S227
          refine sv A227 S227 (opT_assign (v := v49) rfl rfl) rfl rfl ?_
          clear A227 S227 a227 w227;intro a228 w228 A228 S228
          refine sv A228 S228 (opT_assign (v := .int .i64 r4.2) rfl rfl) rfl rfl ?_
          clear A228 S228 a228 w228;intro a229 w229 A229 S229
          refine wpList_nil ?_
          replace A229 := A229.pick' (L' := [(1, .pointer (some ⟨g1, 0, none⟩)), (3, v49), (6, .int .i64 r4.2)]) ⟨rfl, rfl, rfl, trivial⟩
          refine nrmB ?_
          refine nrm ?_
          exact ⟨_, (Option.some.inj hm).symm, ⟨v49, A229.pick' ⟨rfl, rfl, rfl, trivial⟩, St.sel S229 4 [0, 2, 3] rfl rfl⟩⟩
        · replace hm := ifTe hb18 hm
          refine cnd_true (b := r4.2 == s10.2) A225 rfl rfl hb18 ?_
          refine wp_seq ?_
          refine wp_region_lit ?_
          refine sv A225 S225 (opT_move (v := v49) rfl rfl) rfl rfl ?_
          clear A225 S225 a225 w225;intro a230 w230 A230 S230
          refine sv A230 S230 (opT_assign (v := v49) rfl rfl) rfl rfl ?_
          clear A230 S230 a230 w230;intro a231 w231 A231 S231
          refine wpList_nil ?_
          replace A231 := A231.pick' (L' := [(2, v49)]) ⟨rfl, trivial⟩
          refine nrm ?_
          refine wp_ret ?_
          refine thenR ?_
          refine blkR ?_
          refine thenR ?_
          refine blkR ?_
          refine thenR ?_
          replace hm := loopRet hm hf2 hc5
          obtain rfl := Option.some.inj hm
          exact ret_1 A231 rfl (res_tmp A231 rfl) ⟨_, rfl, trivial, _, Hp.le.rfl, St.sel (S231) 4 [0, 3] rfl rfl⟩
    · rintro a232 w232 ⟨s11, ho5, A232, S232⟩
      replace hm := loopOut ho5 hc5
      clear ho5 hc5 hl2
      cases hm
end Go.Proofs.Ytcihbmdppgpmjaa.D
