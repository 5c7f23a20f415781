/- Printed by dec.py: models of functions and the walks that show them. -/
import Derived.Test.YtcihbmdppgpmjaaIw1_3
import Derived.Test.YtcihbmdppgpmjaaIw2_0
set_option linter.unusedVariables false
set_option linter.unusedSimpArgs false
set_option linter.unnecessarySimpa false
set_option maxRecDepth 100000
namespace Go.Proofs.Ytcihbmdppgpmjaa.D
open Go.RowKit
set_option maxHeartbeats 8000000 in
theorem c_i_Automaton_classes (p0a : Int × (List Bool) × (List (List Int))) (r : List Int) (hm : m_i_Automaton_classes p0a = some r) {I : Hp} {w0 : World} (va0 : Value) (va1 : Value) (ra0 : (rSlice 4 rBool).rd I [va0] p0a.2.1) (ra1 : (rSlice 34 (rSlice 3 rInt)).rd I [va1] p0a.2.2) : Con Try.prog 110 #[.agg #[.int .i64 p0a.1, va0, va1]] I w0 [] (fun v => True) (fun v => [Ch.own (rSlice 3 rInt) [v] r]) := by
  refine con_of_wp (n := 49) [(0, .agg #[.int .i64 p0a.1, va0, va1])] Try.func110 rfl rfl (Nat.le_of_ble_eq_true rfl) (args_all ⟨rfl, trivial⟩) (fun F w a ha hs => ?_) (fun v => ⟨dp_own (dp_slice dp_int), trivial⟩)
  unfold m_i_Automaton_classes at hm
  refine wp_seq ?_
  refine wp_region_lit ?_
  refine seq_op ha hs rfl (opT_box (u := .agg #[.int .i64 p0a.1, va0, va1]) (l := [.int .i64 p0a.1, va0, va1]) rfl rfl rfl) (List.Perm.refl _) rfl ?_
  rintro _ aq1 wq1 ⟨g1, rfl⟩ haq1 (hsq1 : St I w0 wq1 [Ch.blk g1 [.int .i64 p0a.1, va0, va1] 27, F])
  clear ha hs a w
  refine seq_op0 haq1 hsq1 (opT_assign (v := .slice none 0 0) rfl rfl) rfl rfl ?_
  rintro u aq2 wq2 hf haq2 hsq2
  obtain rfl := Eq.symm hf
  clear haq1 hsq1 aq1 wq1
  refine wpList_nil ?_
  replace haq2 := haq2.pick' (L' := [(1, .pointer (some ⟨g1, 0, none⟩))]) ⟨rfl, trivial⟩
  refine nrm ?_
  refine wp_seq ?_
  refine wp_region_lit ?_
  refine seq_op haq2 hsq2 rfl (opT_lit0 (E := 3) (R := rInt) Try.underlying34 ti3 rfl) (List.Perm.refl _) rfl ?_
  rintro v1 aq3 wq3 - haq3 (hsq3 : St I w0 wq3 [Ch.own (rSlice 3 rInt) [v1] ([] : List Int), Ch.blk g1 [.int .i64 p0a.1, va0, va1] 27, F])
  clear haq2 hsq2 aq2 wq2
  refine seq_op0 haq3 hsq3 (opT_assign (v := v1) rfl rfl) rfl rfl ?_
  rintro u aq4 wq4 hf haq4 hsq4
  obtain rfl := Eq.symm hf
  clear haq3 hsq3 aq3 wq3
  refine wpList_nil ?_
  replace haq4 := haq4.pick' (L' := [(1, .pointer (some ⟨g1, 0, none⟩)), (3, v1)]) ⟨rfl, rfl, trivial⟩
  refine nrm ?_
  refine wp_seq ?_
  refine wp_seq ?_
  refine wp_region_lit ?_
  refine seq_op haq4 hsq4 rfl (opT_load_blk (g := g1) (off := 0) (E := 27) (l := [.int .i64 p0a.1, va0, va1]) (d := [.int .i64 p0a.1, va0, va1]) (u := .agg #[.int .i64 p0a.1, va0, va1]) ti27 rfl rfl rfl rfl rfl rfl) (perm_front (i := 1) rfl) rfl ?_
  rintro u aq5 wq5 hf haq5 (hsq5 : St I w0 wq5 [Ch.blk g1 [.int .i64 p0a.1, va0, va1] 27, Ch.own (rSlice 3 rInt) [v1] ([] : List Int), F])
  obtain rfl := Eq.symm hf
  clear haq4 hsq4 aq4 wq4
  obtain ⟨r1, e1, hm⟩ := bind_some hm
  refine seq_op haq5 hsq5 rfl (opT_call (args := #[.agg #[.int .i64 p0a.1, va0, va1]]) (first := #[]) (captured := #[]) en96 rfl rfl rfl (c_i_Automaton_live (p0a.1, p0a.2.1, p0a.2.2) _ e1 va0 va1 ra0 ra1)) (List.Perm.refl _) rfl ?_
  rintro v2 aq6 wq6 - haq6 (hsq6 : St I w0 wq6 [Ch.own (rSlice 4 rBool) [v2] r1, Ch.blk g1 [.int .i64 p0a.1, va0, va1] 27, Ch.own (rSlice 3 rInt) [v1] ([] : List Int), F])
  clear haq5 hsq5 aq5 wq5
  refine seq_op0 haq6 hsq6 (opT_len_hd (v := v2) (n := r1.length) (St.hd hsq6 0 rfl).1 Try.underlying22 rfl rfl) rfl rfl ?_
  rintro u aq7 wq7 hf haq7 hsq7
  obtain rfl := Eq.symm hf
  clear haq6 hsq6 aq6 wq6
  refine seq_op0 haq7 hsq7 (opT_move (v := .int .i64 0) rfl rfl) rfl rfl ?_
  rintro u aq8 wq8 hf haq8 hsq8
  obtain rfl := Eq.symm hf
  clear haq7 hsq7 aq7 wq7
  refine wpList_nil ?_
  replace haq8 := haq8.pick' (L' := [(1, .pointer (some ⟨g1, 0, none⟩)), (3, v1), (11, v2), (12, .int .i64 (r1.length : Int)), (13, .int .i64 0)]) ⟨rfl, rfl, rfl, rfl, rfl, trivial⟩
  refine nrm ?_
  obtain ⟨o3, hl1, hc3⟩ := bindL_some hm
  refine wp_cut (fun a w => ∃ s6 : (List Int) × Int, o3 = .brk s6 ∧ ∃ v30 : Value, Agr 49 a [(1, .pointer (some ⟨g1, 0, none⟩)), (3, v30)] ∧ St I w0 w [Ch.own (rSlice 3 rInt) [v30] s6.1, Ch.blk g1 [.int .i64 p0a.1, va0, va1] 27, F]) ?_ ?_
  · refine wp_block (wp_loopM (R := List Int) (S := (List Int) × Int) (fun s5 a w => ∃ v31 : Value, Agr 49 a [(1, .pointer (some ⟨g1, 0, none⟩)), (3, v31), (11, v2), (12, .int .i64 (r1.length : Int)), (13, .int .i64 s5.2)] ∧ St I w0 w [Ch.own (rSlice 3 rInt) [v31] s5.1, Ch.blk g1 [.int .i64 p0a.1, va0, va1] 27, Ch.own (rSlice 4 rBool) [v2] r1, F]) hl1 ?_ ?_)
    · exact ⟨v1, haq8.pick' ⟨rfl, rfl, rfl, rfl, rfl, trivial⟩, St.sel hsq8 4 [2, 1, 0, 3] rfl rfl⟩
    · rintro s5 o4 hm hf1 aq121 wq121 ⟨v31, haq121, hsq121⟩
      unfold m_i_Automaton_classes_l0 at hm
      refine wp_seq ?_
      refine wp_region_lit ?_
      refine seq_op0 haq121 hsq121 (opT_cmp (k := .i64) (m := s5.2) (n := (r1.length : Int)) (c := decide (s5.2 < (r1.length : Int))) rfl rfl rfl rfl rfl) rfl rfl ?_
      rintro u aq122 wq122 hf haq122 hsq122
      obtain rfl := Eq.symm hf
      clear haq121 hsq121 aq121 wq121
      refine wpList_nil ?_
      replace haq122 := haq122.pick' (L' := [(1, .pointer (some ⟨g1, 0, none⟩)), (3, v31), (11, v2), (12, .int .i64 (r1.length : Int)), (13, .int .i64 s5.2), (14, .bool (decide (s5.2 < (r1.length : Int))))]) ⟨rfl, rfl, rfl, rfl, rfl, rfl, trivial⟩
      refine nrm ?_
      refine wp_seq ?_
      rcases two (decide (s5.2 < (r1.length : Int))) with hb11 | hb11
      · replace hm := ifFe hb11 hm
        refine cnd_false (b := decide (s5.2 < (r1.length : Int))) haq122 rfl rfl hb11 ?_
        refine wp_exit ?_
        refine thenX ?_
        refine thenX ?_
        refine ex_in ?_
        refine nrm ?_
        exact ⟨_, loopBrk hm hf1, ⟨v31, haq122.pick' ⟨rfl, rfl, trivial⟩, St.sel hsq122 4 [0, 1, 3] rfl rfl⟩⟩
      · replace hm := ifTe hb11 hm
        refine cnd_true (b := decide (s5.2 < (r1.length : Int))) haq122 rfl rfl hb11 ?_
        refine wp_skip ?_
        refine nrm ?_
        obtain ⟨s7, hj3, hm⟩ := bind_some hm
        refine wp_seq_cut (fun a w => ∃ v38 : Value, Agr 49 a [(1, .pointer (some ⟨g1, 0, none⟩)), (3, v38), (11, v2), (12, .int .i64 (r1.length : Int)), (13, .int .i64 s5.2)] ∧ St I w0 w [Ch.own (rSlice 3 rInt) [v38] s7, Ch.blk g1 [.int .i64 p0a.1, va0, va1] 27, Ch.own (rSlice 4 rBool) [v2] r1, F]) ?_ ?_
        · replace hm := hj3
          refine wp_block ?_
          refine wp_seq ?_
          refine wp_region_lit ?_
          refine seq_op0 haq122 hsq122 (opT_move (v := .int .i64 s5.2) rfl rfl) rfl rfl ?_
          rintro u aq149 wq149 hf haq149 hsq149
          obtain rfl := Eq.symm hf
          clear haq122 hsq122 aq122 wq122
          obtain ⟨x11, e27, hm⟩ := bind_some hm
          refine seq_op0 haq149 hsq149 (opT_index_hd (xs := r1) (i := s5.2) (n := 1) (St.hd hsq149 2 rfl).1 Try.underlying22 ti4 rfl rfl rfl (getI_in e27)) rfl rfl ?_
          rintro u aq150 wq150 hf haq150 hsq150
          obtain rfl := Eq.symm hf
          clear haq149 hsq149 aq149 wq149
          refine seq_op haq150 hsq150 rfl (opT_load_own (E := 4) (R := rBool) (S := rBool) (xs := r1) (a := x11) (i := s5.2) (k := 1) (off := 0) (f := fun (x : Bool) => x) sh_bool e27 Fld.self ti4 rfl rfl rfl rfl rfl) (perm_front (i := 2) rfl) rfl ?_
          rintro u aq151 wq151 hf haq151 (hsq151 : St I w0 wq151 [Ch.own (rSlice 4 rBool) [v2] r1, Ch.own (rSlice 3 rInt) [v31] s5.1, Ch.blk g1 [.int .i64 p0a.1, va0, va1] 27, F])
          obtain rfl := lds_one hf
          clear haq150 hsq150 aq150 wq150
          refine seq_op0 haq151 hsq151 (opT_assign (v := .int .i64 s5.2) rfl rfl) rfl rfl ?_
          rintro u aq152 wq152 hf haq152 hsq152
          obtain rfl := Eq.symm hf
          clear haq151 hsq151 aq151 wq151
          refine seq_op0 haq152 hsq152 (opT_assign (v := .bool x11) rfl rfl) rfl rfl ?_
          rintro u aq153 wq153 hf haq153 hsq153
          obtain rfl := Eq.symm hf
          clear haq152 hsq152 aq152 wq152
          refine wpList_nil ?_
          replace haq153 := haq153.pick' (L' := [(1, .pointer (some ⟨g1, 0, none⟩)), (3, v31), (4, .int .i64 s5.2), (5, .bool x11), (11, v2), (12, .int .i64 (r1.length : Int)), (13, .int .i64 s5.2)]) ⟨rfl, rfl, rfl, rfl, rfl, rfl, rfl, trivial⟩
          refine nrm ?_
          refine wp_block ?_
          refine wp_seq ?_
          refine wp_region_lit ?_
          refine seq_op0 haq153 hsq153 (opT_move (v := .bool x11) rfl rfl) rfl rfl ?_
          rintro u aq154 wq154 hf haq154 hsq154
          obtain rfl := Eq.symm hf
          clear haq153 hsq153 aq153 wq153
          refine seq_op0 haq154 hsq154 (opT_not (b := x11) rfl rfl) rfl rfl ?_
          rintro u aq155 wq155 hf haq155 hsq155
          obtain rfl := Eq.symm hf
          clear haq154 hsq154 aq154 wq154
          refine seq_op0 haq155 hsq155 (opT_assign (v := .bool (!x11)) rfl rfl) rfl rfl ?_
          rintro u aq156 wq156 hf haq156 hsq156
          obtain rfl := Eq.symm hf
          clear haq155 hsq155 aq155 wq155
          refine wpList_nil ?_
          replace haq156 := haq156.pick' (L' := [(1, .pointer (some ⟨g1, 0, none⟩)), (3, v31), (4, .int .i64 s5.2), (11, v2), (12, .int .i64 (r1.length : Int)), (13, .int .i64 s5.2), (21, .bool (!x11))]) ⟨rfl, rfl, rfl, rfl, rfl, rfl, rfl, trivial⟩
          refine nrm ?_
          rcases two (x11) with hb14 | hb14
          · replace hm := ifFe hb14 hm
            refine cnd_true (b := !x11) haq156 rfl rfl (notT hb14) ?_
            refine wp_region_lit ?_
            refine seq_op0 haq156 hsq156 (opT_move (v := v31) rfl rfl) rfl rfl ?_
            rintro u aq157 wq157 hf haq157 hsq157
            obtain rfl := Eq.symm hf
            clear haq156 hsq156 aq156 wq156
            refine seq_op haq157 hsq157 rfl (opT_lit_cpy (E := 3) (R := rInt) (S := rInt) [(.int .i64 (-1), [.int .i64 (-1)])] [-1] cpy_int (rd_all ⟨rfl, trivial⟩) Try.underlying34 tz3 (by decide) rfl (by decide) (by decide) rfl rfl rfl rfl (us_all ⟨⟨rfl, rfl⟩, trivial⟩)) (List.Perm.refl _) rfl ?_
            rintro v39 aq158 wq158 - haq158 (hsq158 : St I w0 wq158 [Ch.own (rSlice 3 rInt) [v39] ([-1]), Ch.own (rSlice 4 rBool) [v2] r1, Ch.own (rSlice 3 rInt) [v31] s5.1, Ch.blk g1 [.int .i64 p0a.1, va0, va1] 27, F])
            clear haq157 hsq157 aq157 wq157
            obtain ⟨z16, e28, hm⟩ := bind_some hm
            refine seq_op haq158 hsq158 rfl (opT_app (E := 3) (R := rInt) (s := v31) (u := v39) e28 Try.underlying34 tz3 rfl (by decide) rfl (by decide) rfl rfl rfl) (perm_sel [2, 0, 1, 3, 4] (m := 5) rfl rfl) rfl ?_
            rintro v40 aq159 wq159 - haq159 (hsq159 : St I w0 wq159 [Ch.own (rSlice 3 rInt) [v40] z16, Ch.own (rSlice 4 rBool) [v2] r1, Ch.blk g1 [.int .i64 p0a.1, va0, va1] 27, F])
            clear haq158 hsq158 aq158 wq158
            refine seq_op0 haq159 hsq159 (opT_assign (v := v40) rfl rfl) rfl rfl ?_
            rintro u aq160 wq160 hf haq160 hsq160
            obtain rfl := Eq.symm hf
            clear haq159 hsq159 aq159 wq159
            refine wpList_nil ?_
            replace haq160 := haq160.pick' (L' := [(1, .pointer (some ⟨g1, 0, none⟩)), (3, v40), (11, v2), (12, .int .i64 (r1.length : Int)), (13, .int .i64 s5.2)]) ⟨rfl, rfl, rfl, rfl, rfl, trivial⟩
            refine nrmB ?_
            refine nrmB ?_
            refine nrm ?_
            obtain rfl := Option.some.inj hm
            exact ⟨v40, haq160.pick' ⟨rfl, rfl, rfl, rfl, rfl, trivial⟩, St.sel hsq160 4 [0, 2, 1, 3] rfl rfl⟩
          · replace hm := ifTe hb14 hm
            refine cnd_false (b := !x11) haq156 rfl rfl (notF hb14) ?_
            refine wp_seq ?_
            refine wp_region_lit ?_
            refine seq_op0 haq156 hsq156 (opT_field_addr (g := g1) (b := 0) tf27_1 rfl rfl) rfl rfl ?_
            rintro u aq161 wq161 hf haq161 hsq161
            obtain rfl := Eq.symm hf
            clear haq156 hsq156 aq156 wq156
            refine seq_op haq161 hsq161 rfl (opT_load_blk (g := g1) (off := 1) (E := 27) (l := [.int .i64 p0a.1, va0, va1]) (d := [va0]) (u := va0) ti22 rfl rfl rfl rfl rfl rfl) (perm_front (i := 2) rfl) rfl ?_
            rintro u aq162 wq162 hf haq162 (hsq162 : St I w0 wq162 [Ch.blk g1 [.int .i64 p0a.1, va0, va1] 27, Ch.own (rSlice 4 rBool) [v2] r1, Ch.own (rSlice 3 rInt) [v31] s5.1, F])
            obtain rfl := Eq.symm hf
            clear haq161 hsq161 aq161 wq161
            refine seq_op0 haq162 hsq162 (opT_move (v := .int .i64 s5.2) rfl rfl) rfl rfl ?_
            rintro u aq163 wq163 hf haq163 hsq163
            obtain rfl := Eq.symm hf
            clear haq162 hsq162 aq162 wq162
            obtain ⟨x12, e29, hm⟩ := bind_some hm
            refine seq_op0 haq163 hsq163 (opT_index_hd (xs := p0a.2.1) (i := s5.2) (n := 1) (Hd.of_rd ra0) Try.underlying22 ti4 rfl rfl rfl (getI_in e29)) rfl rfl ?_
            rintro u aq164 wq164 hf haq164 hsq164
            obtain rfl := Eq.symm hf
            clear haq163 hsq163 aq163 wq163
            refine seq_op0 haq164 hsq164 (opT_load_el (S := rBool) (xs := p0a.2.1) (a := x12) (i := s5.2) (k := 1) (off := 0) (f := fun (x : Bool) => x) ra0 e29 Fld.self ti4 rfl rfl rfl rfl rfl) rfl rfl ?_
            rintro u aq165 wq165 hf haq165 hsq165
            obtain rfl := lds_one hf
            clear haq164 hsq164 aq164 wq164
            refine seq_op0 haq165 hsq165 (opT_assign (v := .bool x12) rfl rfl) rfl rfl ?_
            rintro u aq166 wq166 hf haq166 hsq166
            obtain rfl := Eq.symm hf
            clear haq165 hsq165 aq165 wq165
            refine wpList_nil ?_
            replace haq166 := haq166.pick' (L' := [(1, .pointer (some ⟨g1, 0, none⟩)), (3, v31), (11, v2), (12, .int .i64 (r1.length : Int)), (13, .int .i64 s5.2), (27, .bool x12)]) ⟨rfl, rfl, rfl, rfl, rfl, rfl, trivial⟩
            refine nrm ?_
            rcases two (x12) with hb15 | hb15
            · replace hm := ifFe hb15 hm
              refine cnd_false (b := x12) haq166 rfl rfl hb15 ?_
              refine wp_region_lit ?_
              refine seq_op0 haq166 hsq166 (opT_move (v := v31) rfl rfl) rfl rfl ?_
              rintro u aq167 wq167 hf haq167 hsq167
              obtain rfl := Eq.symm hf
              clear haq166 hsq166 aq166 wq166
              refine seq_op haq167 hsq167 rfl (opT_lit_cpy (E := 3) (R := rInt) (S := rInt) [(.int .i64 0, [.int .i64 0])] [0] cpy_int (rd_all ⟨rfl, trivial⟩) Try.underlying34 tz3 (by decide) rfl (by decide) (by decide) rfl rfl rfl rfl (us_all ⟨⟨rfl, rfl⟩, trivial⟩)) (List.Perm.refl _) rfl ?_
              rintro v41 aq168 wq168 - haq168 (hsq168 : St I w0 wq168 [Ch.own (rSlice 3 rInt) [v41] ([0]), Ch.blk g1 [.int .i64 p0a.1, va0, va1] 27, Ch.own (rSlice 4 rBool) [v2] r1, Ch.own (rSlice 3 rInt) [v31] s5.1, F])
              clear haq167 hsq167 aq167 wq167
              obtain ⟨z17, e30, hm⟩ := bind_some hm
              refine seq_op haq168 hsq168 rfl (opT_app (E := 3) (R := rInt) (s := v31) (u := v41) e30 Try.underlying34 tz3 rfl (by decide) rfl (by decide) rfl rfl rfl) (perm_sel [3, 0, 1, 2, 4] (m := 5) rfl rfl) rfl ?_
              rintro v42 aq169 wq169 - haq169 (hsq169 : St I w0 wq169 [Ch.own (rSlice 3 rInt) [v42] z17, Ch.blk g1 [.int .i64 p0a.1, va0, va1] 27, Ch.own (rSlice 4 rBool) [v2] r1, F])
              clear haq168 hsq168 aq168 wq168
              refine seq_op0 haq169 hsq169 (opT_assign (v := v42) rfl rfl) rfl rfl ?_
              rintro u aq170 wq170 hf haq170 hsq170
              obtain rfl := Eq.symm hf
              clear haq169 hsq169 aq169 wq169
              refine wpList_nil ?_
              replace haq170 := haq170.pick' (L' := [(1, .pointer (some ⟨g1, 0, none⟩)), (3, v42), (11, v2), (12, .int .i64 (r1.length : Int)), (13, .int .i64 s5.2)]) ⟨rfl, rfl, rfl, rfl, rfl, trivial⟩
              refine nrmB ?_
              refine nrmB ?_
              refine nrm ?_
              obtain rfl := Option.some.inj hm
              exact ⟨v42, haq170.pick' ⟨rfl, rfl, rfl, rfl, rfl, trivial⟩, St.sel hsq170 4 [0, 1, 2, 3] rfl rfl⟩
            · replace hm := ifTe hb15 hm
              refine cnd_true (b := x12) haq166 rfl rfl hb15 ?_
              refine wp_region_lit ?_
              refine seq_op0 haq166 hsq166 (opT_move (v := v31) rfl rfl) rfl rfl ?_
              rintro u aq171 wq171 hf haq171 hsq171
              obtain rfl := Eq.symm hf
              clear haq166 hsq166 aq166 wq166
              refine seq_op haq171 hsq171 rfl (opT_lit_cpy (E := 3) (R := rInt) (S := rInt) [(.int .i64 1, [.int .i64 1])] [1] cpy_int (rd_all ⟨rfl, trivial⟩) Try.underlying34 tz3 (by decide) rfl (by decide) (by decide) rfl rfl rfl rfl (us_all ⟨⟨rfl, rfl⟩, trivial⟩)) (List.Perm.refl _) rfl ?_
              rintro v43 aq172 wq172 - haq172 (hsq172 : St I w0 wq172 [Ch.own (rSlice 3 rInt) [v43] ([1]), Ch.blk g1 [.int .i64 p0a.1, va0, va1] 27, Ch.own (rSlice 4 rBool) [v2] r1, Ch.own (rSlice 3 rInt) [v31] s5.1, F])
              clear haq171 hsq171 aq171 wq171
              obtain ⟨z18, e31, hm⟩ := bind_some hm
              refine seq_op haq172 hsq172 rfl (opT_app (E := 3) (R := rInt) (s := v31) (u := v43) e31 Try.underlying34 tz3 rfl (by decide) rfl (by decide) rfl rfl rfl) (perm_sel [3, 0, 1, 2, 4] (m := 5) rfl rfl) rfl ?_
              rintro v44 aq173 wq173 - haq173 (hsq173 : St I w0 wq173 [Ch.own (rSlice 3 rInt) [v44] z18, Ch.blk g1 [.int .i64 p0a.1, va0, va1] 27, Ch.own (rSlice 4 rBool) [v2] r1, F])
              clear haq172 hsq172 aq172 wq172
              refine seq_op0 haq173 hsq173 (opT_assign (v := v44) rfl rfl) rfl rfl ?_
              rintro u aq174 wq174 hf haq174 hsq174
              obtain rfl := Eq.symm hf
              clear haq173 hsq173 aq173 wq173
              refine wpList_nil ?_
              replace haq174 := haq174.pick' (L' := [(1, .pointer (some ⟨g1, 0, none⟩)), (3, v44), (11, v2), (12, .int .i64 (r1.length : Int)), (13, .int .i64 s5.2)]) ⟨rfl, rfl, rfl, rfl, rfl, trivial⟩
              refine nrmB ?_
              refine nrmB ?_
              refine nrm ?_
              obtain rfl := Option.some.inj hm
              exact ⟨v44, haq174.pick' ⟨rfl, rfl, rfl, rfl, rfl, trivial⟩, St.sel hsq174 4 [0, 1, 2, 3] rfl rfl⟩
        · rintro aq175 wq175 ⟨v38, haq175, hsq175⟩
          refine wp_region_lit ?_
          refine seq_op0 haq175 hsq175 (opT_add (m := s5.2) (n := 1) rfl rfl rfl) rfl rfl ?_
          rintro u aq176 wq176 hf haq176 hsq176
          obtain rfl := Eq.symm hf
          clear haq175 hsq175 aq175 wq175
          refine seq_op0 haq176 hsq176 (opT_move (v := .int .i64 (IntKind.i64.wrap (s5.2 + 1))) rfl rfl) rfl rfl ?_
          rintro u aq177 wq177 hf haq177 hsq177
          obtain rfl := Eq.symm hf
          clear haq176 hsq176 aq176 wq176
          refine wpList_nil ?_
          replace haq177 := haq177.pick' (L' := [(1, .pointer (some ⟨g1, 0, none⟩)), (3, v38), (11, v2), (12, .int .i64 (r1.length : Int)), (13, .int .i64 (IntKind.i64.wrap (s5.2 + 1)))]) ⟨rfl, rfl, rfl, rfl, rfl, trivial⟩
          refine nrm ?_
          exact ⟨_, (Option.some.inj hm).symm, ⟨v38, haq177.pick' ⟨rfl, rfl, rfl, rfl, rfl, trivial⟩, St.sel hsq177 4 [0, 1, 2, 3] rfl rfl⟩⟩
  · rintro aq178 wq178 ⟨s6, ho4, v30, haq178, hsq178⟩
    replace hm := loopOut ho4 hc3
    clear ho4 hc3 hl1
    refine nrm ?_
    refine wp_seq ?_
    refine wp_region_lit ?_
    refine seq_op0 haq178 hsq178 (opT_assign (v := .int .i64 (-1)) rfl rfl) rfl rfl ?_
    rintro u aq179 wq179 hf haq179 hsq179
    obtain rfl := Eq.symm hf
    clear haq178 hsq178 aq178 wq178
    refine wpList_nil ?_
    replace haq179 := haq179.pick' (L' := [(1, .pointer (some ⟨g1, 0, none⟩)), (3, v30), (6, .int .i64 (-1))]) ⟨rfl, rfl, rfl, trivial⟩
    refine nrm ?_
    obtain ⟨o6, hl2, hc5⟩ := bindL_some hm
    refine wp_cut (fun a w => ∃ s11 : (List Int) × Int, o6 = .brk s11 ∧ Agr 49 a [] ∧ St I w0 w [F]) ?_ ?_
    · refine wp_block (wp_loopM (R := List Int) (S := (List Int) × Int) (fun s10 a w => ∃ v48 : Value, Agr 49 a [(1, .pointer (some ⟨g1, 0, none⟩)), (3, v48), (6, .int .i64 s10.2)] ∧ St I w0 w [Ch.own (rSlice 3 rInt) [v48] s10.1, Ch.blk g1 [.int .i64 p0a.1, va0, va1] 27, F]) hl2 ?_ ?_)
      · exact ⟨v30, haq179.pick' ⟨rfl, rfl, rfl, trivial⟩, St.sel hsq179 3 [0, 1, 2] rfl rfl⟩
      · rintro s10 o7 hm hf2 aq214 wq214 ⟨v48, haq214, hsq214⟩
        unfold m_i_Automaton_classes_l1 at hm
        refine wp_block ?_
        refine wp_seq ?_
        refine wp_region_lit ?_
        refine seq_op haq214 hsq214 rfl (opT_load_blk (g := g1) (off := 0) (E := 27) (l := [.int .i64 p0a.1, va0, va1]) (d := [.int .i64 p0a.1, va0, va1]) (u := .agg #[.int .i64 p0a.1, va0, va1]) ti27 rfl rfl rfl rfl rfl rfl) (perm_front (i := 1) rfl) rfl ?_
        rintro u aq215 wq215 hf haq215 (hsq215 : St I w0 wq215 [Ch.blk g1 [.int .i64 p0a.1, va0, va1] 27, Ch.own (rSlice 3 rInt) [v48] s10.1, F])
        obtain rfl := Eq.symm hf
        clear haq214 hsq214 aq214 wq214
        refine seq_op0 haq215 hsq215 (opT_move (v := v48) rfl rfl) rfl rfl ?_
        rintro u aq216 wq216 hf haq216 hsq216
        obtain rfl := Eq.symm hf
        clear haq215 hsq215 aq215 wq215
        obtain ⟨r4, e34, hm⟩ := bind_some hm
        refine seq_op haq216 hsq216 rfl (OpT.lend (ls := [Ch.own (rSlice 3 rInt) [v48] s10.1]) (gv := fun v => [Ch.own (rSlice 3 rInt) [vg v [0]] r4.1]) (fun _ => ⟨dp_own (dp_slice dp_int), trivial⟩) fun J hJ hl hb => opT_call (args := #[.agg #[.int .i64 p0a.1, va0, va1], v48]) (first := #[]) (captured := #[]) en151 rfl rfl rfl (c_i_Automaton_refine (p0a.1, p0a.2.1, p0a.2.2) s10.1 _ e34 va0 va1 v48 (Rep.rd_mono _ ra0 hJ) (Rep.rd_mono _ ra1 hJ) (hl _ _ _ (List.Mem.head _)))) (perm_front (i := 1) rfl) rfl ?_
        rintro u aq217 wq217 ⟨v49, rfl⟩ haq217 (hsq217 : St I w0 wq217 [Ch.own (rSlice 3 rInt) [v49] r4.1, Ch.own (rSlice 3 rInt) [v48] s10.1, Ch.blk g1 [.int .i64 p0a.1, va0, va1] 27, F])
        clear haq216 hsq216 aq216 wq216
        refine seq_op0 haq217 hsq217 (opT_move (v := .tuple #[v49, .int .i64 r4.2]) rfl rfl) rfl rfl ?_
        rintro u aq218 wq218 hf haq218 hsq218
        obtain rfl := Eq.symm hf
        clear haq217 hsq217 aq217 wq217
        refine seq_op0 haq218 hsq218 (opT_extract (vs := #[v49, .int .i64 r4.2]) (v := v49) rfl rfl rfl) rfl rfl ?_
        rintro u aq219 wq219 hf haq219 hsq219
        obtain rfl := Eq.symm hf
        clear haq218 hsq218 aq218 wq218
        refine seq_op0 haq219 hsq219 (opT_extract (vs := #[v49, .int .i64 r4.2]) (v := .int .i64 r4.2) rfl rfl rfl) rfl rfl ?_
        rintro u aq220 wq220 hf haq220 hsq220
        obtain rfl := Eq.symm hf
        clear haq219 hsq219 aq219 wq219
        refine seq_op0 haq220 hsq220 (opT_assign (v := v49) rfl rfl) rfl rfl ?_
        rintro u aq221 wq221 hf haq221 hsq221
        obtain rfl := Eq.symm hf
        clear haq220 hsq220 aq220 wq220
        refine seq_op0 haq221 hsq221 (opT_assign (v := .int .i64 r4.2) rfl rfl) rfl rfl ?_
        rintro u aq222 wq222 hf haq222 hsq222
        obtain rfl := Eq.symm hf
        clear haq221 hsq221 aq221 wq221
        refine wpList_nil ?_
        replace haq222 := haq222.pick' (L' := [(1, .pointer (some ⟨g1, 0, none⟩)), (6, .int .i64 s10.2), (7, v49), (8, .int .i64 r4.2)]) ⟨rfl, rfl, rfl, rfl, trivial⟩
        refine nrm ?_
        refine wp_seq ?_
        refine wp_seq ?_
        refine wp_region_lit ?_
        refine seq_op0 haq222 hsq222 (opT_move (v := .int .i64 r4.2) rfl rfl) rfl rfl ?_
        rintro u aq223 wq223 hf haq223 hsq223
        obtain rfl := Eq.symm hf
        clear haq222 hsq222 aq222 wq222
        refine seq_op0 haq223 hsq223 (opT_move (v := .int .i64 s10.2) rfl rfl) rfl rfl ?_
        rintro u aq224 wq224 hf haq224 hsq224
        obtain rfl := Eq.symm hf
        clear haq223 hsq223 aq223 wq223
        refine seq_op0 haq224 hsq224 (opT_cmp (k := .i64) (m := r4.2) (n := s10.2) (c := r4.2 == s10.2) rfl rfl rfl rfl rfl) rfl rfl ?_
        rintro u aq225 wq225 hf haq225 hsq225
        obtain rfl := Eq.symm hf
        clear haq224 hsq224 aq224 wq224
        refine wpList_nil ?_
        replace haq225 := haq225.pick' (L' := [(1, .pointer (some ⟨g1, 0, none⟩)), (7, v49), (8, .int .i64 r4.2), (45, .bool (r4.2 == s10.2))]) ⟨rfl, rfl, rfl, rfl, trivial⟩
        refine nrm ?_
        rcases two (r4.2 == s10.2) with hb18 | hb18
        · replace hm := ifFe hb18 hm
          refine cnd_false (b := r4.2 == s10.2) haq225 rfl rfl hb18 ?_
          refine wp_skip ?_
          refine nrm ?_
          refine wp_region_lit ?_
          refine seq_op0 haq225 hsq225 (opT_move (v := v49) rfl rfl) rfl rfl ?_
          rintro u aq226 wq226 hf haq226 hsq226
          obtain rfl := Eq.symm hf
          clear haq225 hsq225 aq225 wq225
          refine seq_op0 haq226 hsq226 (opT_move (v := .int .i64 r4.2) rfl rfl) rfl rfl ?_
          rintro u aq227 wq227 hf haq227 hsq227
          obtain rfl := Eq.symm hf
          clear haq226 hsq226 aq226 wq226
          refine seq_op0 haq227 hsq227 (opT_assign (v := v49) rfl rfl) rfl rfl ?_
          rintro u aq228 wq228 hf haq228 hsq228
          obtain rfl := Eq.symm hf
          clear haq227 hsq227 aq227 wq227
          refine seq_op0 haq228 hsq228 (opT_assign (v := .int .i64 r4.2) rfl rfl) rfl rfl ?_
          rintro u aq229 wq229 hf haq229 hsq229
          obtain rfl := Eq.symm hf
          clear haq228 hsq228 aq228 wq228
          refine wpList_nil ?_
          replace haq229 := haq229.pick' (L' := [(1, .pointer (some ⟨g1, 0, none⟩)), (3, v49), (6, .int .i64 r4.2)]) ⟨rfl, rfl, rfl, trivial⟩
          refine nrmB ?_
          refine nrm ?_
          exact ⟨_, (Option.some.inj hm).symm, ⟨v49, haq229.pick' ⟨rfl, rfl, rfl, trivial⟩, St.sel hsq229 4 [0, 2, 3] rfl rfl⟩⟩
        · replace hm := ifTe hb18 hm
          refine cnd_true (b := r4.2 == s10.2) haq225 rfl rfl hb18 ?_
          refine wp_seq ?_
          refine wp_region_lit ?_
          refine seq_op0 haq225 hsq225 (opT_move (v := v49) rfl rfl) rfl rfl ?_
          rintro u aq230 wq230 hf haq230 hsq230
          obtain rfl := Eq.symm hf
          clear haq225 hsq225 aq225 wq225
          refine seq_op0 haq230 hsq230 (opT_assign (v := v49) rfl rfl) rfl rfl ?_
          rintro u aq231 wq231 hf haq231 hsq231
          obtain rfl := Eq.symm hf
          clear haq230 hsq230 aq230 wq230
          refine wpList_nil ?_
          replace haq231 := haq231.pick' (L' := [(2, v49)]) ⟨rfl, trivial⟩
          refine nrm ?_
          refine wp_ret ?_
          refine thenR ?_
          refine blkR ?_
          refine thenR ?_
          refine blkR ?_
          refine thenR ?_
          replace hm := loopRet hm hf2 hc5
          obtain rfl := Option.some.inj hm
          exact ret_1 haq231 rfl (res_tmp haq231 rfl) ⟨_, rfl, trivial, _, Hp.le.rfl, St.sel (hsq231) 4 [0, 3] rfl rfl⟩
    · rintro aq232 wq232 ⟨s11, ho5, haq232, hsq232⟩
      replace hm := loopOut ho5 hc5
      clear ho5 hc5 hl2
      cases hm
end Go.Proofs.Ytcihbmdppgpmjaa.D
