/- Printed by dec.py: models of functions and the walks that show them. -/
import Derived.Test.YtcihbmdppgpmjaaIw0_1
import Derived.Test.YtcihbmdppgpmjaaIw0_2
import Derived.Test.YtcihbmdppgpmjaaIw0_3
set_option linter.unusedVariables false
set_option linter.unusedSimpArgs false
set_option linter.unnecessarySimpa false
set_option maxRecDepth 100000
namespace Go.Proofs.Ytcihbmdppgpmjaa.D
open Go.RowKit
set_option maxHeartbeats 8000000 in
theorem c_s_l12Classes (p0 : Int × (List Bool) × (List (List Int))) (r : List Int) (hm : m_s_l12Classes p0 = some r) {I : Hp} {w0 : World} (va0 : Value) (va1 : Value) (ra0 : (rSlice 4 rBool).rd I [va0] p0.2.1) (ra1 : (rSlice 34 (rSlice 3 rInt)).rd I [va1] p0.2.2) : Con Try.prog 105 #[.agg #[.int .i64 p0.1, va0, va1]] I w0 [] (fun v => True) (fun v => [Ch.own (rSlice 3 rInt) [v] r]) := by
  refine con_of_wp (n := 99) [(0, .agg #[.int .i64 p0.1, va0, va1])] Try.func105 rfl rfl (Nat.le_of_ble_eq_true rfl) (args_all ⟨rfl, trivial⟩) (fun F w a ha hs => ?_) (fun v => ⟨dp_own (dp_slice dp_int), trivial⟩)
  unfold m_s_l12Classes at hm
  refine wp_seq ?_
  refine wp_region_lit ?_
  refine seq_op ha hs rfl (opT_box (u := .agg #[.int .i64 p0.1, va0, va1]) (l := [.int .i64 p0.1, va0, va1]) rfl rfl rfl) (List.Perm.refl _) rfl ?_
  rintro _ aq1 wq1 ⟨g1, rfl⟩ haq1 (hsq1 : St I w0 wq1 [Ch.blk g1 [.int .i64 p0.1, va0, va1] 27, F])
  clear ha hs a w
  refine seq_op0 haq1 hsq1 (opT_assign (v := .slice none 0 0) rfl rfl) rfl rfl ?_
  rintro u aq2 wq2 hf haq2 hsq2
  obtain rfl := Eq.symm hf
  clear haq1 hsq1 aq1 wq1
  refine wpList_nil ?_
  replace haq2 := haq2.pick' (L' := [(1, .pointer (some ⟨g1, 0, none⟩))]) ⟨rfl, trivial⟩
  refine nrm ?_
  refine wp_seq ?_
  refine wp_region_lit ?_
  refine seq_op haq2 hsq2 rfl (opT_load_blk (g := g1) (off := 0) (E := 27) (l := [.int .i64 p0.1, va0, va1]) (d := [.int .i64 p0.1, va0, va1]) (u := .agg #[.int .i64 p0.1, va0, va1]) ti27 rfl rfl rfl rfl rfl rfl) (perm_front (i := 0) rfl) rfl ?_
  rintro u aq3 wq3 hf haq3 (hsq3 : St I w0 wq3 [Ch.blk g1 [.int .i64 p0.1, va0, va1] 27, F])
  obtain rfl := Eq.symm hf
  clear haq2 hsq2 aq2 wq2
  obtain ⟨r1, e1, hm⟩ := bind_some hm
  refine seq_op haq3 hsq3 rfl (opT_call (args := #[.agg #[.int .i64 p0.1, va0, va1]]) (first := #[]) (captured := #[]) en48 rfl rfl rfl (c_s_l11Live (p0.1, p0.2.1, p0.2.2) _ e1 va0 va1 ra0 ra1)) (List.Perm.refl _) rfl ?_
  rintro v1 aq4 wq4 - haq4 (hsq4 : St I w0 wq4 [Ch.own (rSlice 4 rBool) [v1] r1, Ch.blk g1 [.int .i64 p0.1, va0, va1] 27, F])
  clear haq3 hsq3 aq3 wq3
  refine seq_op0 haq4 hsq4 (opT_assign (v := v1) rfl rfl) rfl rfl ?_
  rintro u aq5 wq5 hf haq5 hsq5
  obtain rfl := Eq.symm hf
  clear haq4 hsq4 aq4 wq4
  refine wpList_nil ?_
  replace haq5 := haq5.pick' (L' := [(1, .pointer (some ⟨g1, 0, none⟩)), (3, v1)]) ⟨rfl, rfl, trivial⟩
  refine nrm ?_
  refine wp_seq ?_
  refine wp_region_lit ?_
  refine seq_op haq5 hsq5 rfl (opT_lit0 (E := 3) (R := rInt) Try.underlying34 ti3 rfl) (List.Perm.refl _) rfl ?_
  rintro v2 aq6 wq6 - haq6 (hsq6 : St I w0 wq6 [Ch.own (rSlice 3 rInt) [v2] ([] : List Int), Ch.own (rSlice 4 rBool) [v1] r1, Ch.blk g1 [.int .i64 p0.1, va0, va1] 27, F])
  clear haq5 hsq5 aq5 wq5
  refine seq_op0 haq6 hsq6 (opT_assign (v := v2) rfl rfl) rfl rfl ?_
  rintro u aq7 wq7 hf haq7 hsq7
  obtain rfl := Eq.symm hf
  clear haq6 hsq6 aq6 wq6
  refine wpList_nil ?_
  replace haq7 := haq7.pick' (L' := [(1, .pointer (some ⟨g1, 0, none⟩)), (3, v1), (4, v2)]) ⟨rfl, rfl, rfl, trivial⟩
  refine nrm ?_
  refine wp_seq ?_
  refine wp_seq ?_
  refine wp_region_lit ?_
  refine seq_op0 haq7 hsq7 (opT_assign (v := .int .i64 0) rfl rfl) rfl rfl ?_
  rintro u aq8 wq8 hf haq8 hsq8
  obtain rfl := Eq.symm hf
  clear haq7 hsq7 aq7 wq7
  refine wpList_nil ?_
  replace haq8 := haq8.pick' (L' := [(1, .pointer (some ⟨g1, 0, none⟩)), (3, v1), (4, v2), (5, .int .i64 0)]) ⟨rfl, rfl, rfl, rfl, trivial⟩
  refine nrm ?_
  obtain ⟨o5, hl1, hc5⟩ := bindL_some hm
  refine wp_cut (fun a w => ∃ s8 : (List Int) × Int, o5 = .brk s8 ∧ ∃ v8 : Value, Agr 99 a [(1, .pointer (some ⟨g1, 0, none⟩)), (4, v8)] ∧ St I w0 w [Ch.own (rSlice 3 rInt) [v8] s8.1, Ch.blk g1 [.int .i64 p0.1, va0, va1] 27, F]) ?_ ?_
  · refine wp_block (wp_loopM (R := List Int) (S := (List Int) × Int) (fun s7 a w => ∃ v9 : Value, Agr 99 a [(1, .pointer (some ⟨g1, 0, none⟩)), (3, v1), (4, v9), (5, .int .i64 s7.2)] ∧ St I w0 w [Ch.own (rSlice 3 rInt) [v9] s7.1, Ch.blk g1 [.int .i64 p0.1, va0, va1] 27, Ch.own (rSlice 4 rBool) [v1] r1, F]) hl1 ?_ ?_)
    · exact ⟨v2, haq8.pick' ⟨rfl, rfl, rfl, rfl, trivial⟩, St.sel hsq8 4 [0, 2, 1, 3] rfl rfl⟩
    · rintro s7 o6 hm hf1 aq89 wq89 ⟨v9, haq89, hsq89⟩
      unfold m_s_l12Classes_l0 at hm
      refine wp_seq ?_
      refine wp_seq ?_
      refine wp_region_lit ?_
      refine seq_op0 haq89 hsq89 (opT_move (v := .int .i64 s7.2) rfl rfl) rfl rfl ?_
      rintro u aq90 wq90 hf haq90 hsq90
      obtain rfl := Eq.symm hf
      clear haq89 hsq89 aq89 wq89
      refine seq_op0 haq90 hsq90 (opT_field_addr (g := g1) (b := 0) tf27_1 rfl rfl) rfl rfl ?_
      rintro u aq91 wq91 hf haq91 hsq91
      obtain rfl := Eq.symm hf
      clear haq90 hsq90 aq90 wq90
      refine seq_op haq91 hsq91 rfl (opT_load_blk (g := g1) (off := 1) (E := 27) (l := [.int .i64 p0.1, va0, va1]) (d := [va0]) (u := va0) ti22 rfl rfl rfl rfl rfl rfl) (perm_front (i := 1) rfl) rfl ?_
      rintro u aq92 wq92 hf haq92 (hsq92 : St I w0 wq92 [Ch.blk g1 [.int .i64 p0.1, va0, va1] 27, Ch.own (rSlice 3 rInt) [v9] s7.1, Ch.own (rSlice 4 rBool) [v1] r1, F])
      obtain rfl := Eq.symm hf
      clear haq91 hsq91 aq91 wq91
      refine seq_op0 haq92 hsq92 (opT_len_hd (v := va0) (n := p0.2.1.length) (Hd.of_rd ra0) Try.underlying22 rfl rfl) rfl rfl ?_
      rintro u aq93 wq93 hf haq93 hsq93
      obtain rfl := Eq.symm hf
      clear haq92 hsq92 aq92 wq92
      refine seq_op0 haq93 hsq93 (opT_cmp (k := .i64) (m := s7.2) (n := (p0.2.1.length : Int)) (c := decide (s7.2 < (p0.2.1.length : Int))) rfl rfl rfl rfl rfl) rfl rfl ?_
      rintro u aq94 wq94 hf haq94 hsq94
      obtain rfl := Eq.symm hf
      clear haq93 hsq93 aq93 wq93
      refine wpList_nil ?_
      replace haq94 := haq94.pick' (L' := [(1, .pointer (some ⟨g1, 0, none⟩)), (3, v1), (4, v9), (5, .int .i64 s7.2), (21, .bool (decide (s7.2 < (p0.2.1.length : Int))))]) ⟨rfl, rfl, rfl, rfl, rfl, trivial⟩
      refine nrm ?_
      rcases two (decide (s7.2 < (p0.2.1.length : Int))) with hb11 | hb11
      · replace hm := ifFe hb11 hm
        refine cnd_false (b := decide (s7.2 < (p0.2.1.length : Int))) haq94 rfl rfl hb11 ?_
        refine wp_exit ?_
        refine thenX ?_
        refine thenX ?_
        refine ex_in ?_
        refine nrm ?_
        exact ⟨_, loopBrk hm hf1, ⟨v9, haq94.pick' ⟨rfl, rfl, trivial⟩, St.sel hsq94 4 [1, 0, 3] rfl rfl⟩⟩
      · replace hm := ifTe hb11 hm
        refine cnd_true (b := decide (s7.2 < (p0.2.1.length : Int))) haq94 rfl rfl hb11 ?_
        refine wp_skip ?_
        refine nrm ?_
        refine wp_seq ?_
        refine wp_block ?_
        refine wp_seq ?_
        refine wp_region_lit ?_
        refine seq_op0 haq94 hsq94 (opT_assign (v := .int .i64 0) rfl rfl) rfl rfl ?_
        rintro u aq95 wq95 hf haq95 hsq95
        obtain rfl := Eq.symm hf
        clear haq94 hsq94 aq94 wq94
        refine wpList_nil ?_
        replace haq95 := haq95.pick' (L' := [(1, .pointer (some ⟨g1, 0, none⟩)), (3, v1), (4, v9), (5, .int .i64 s7.2), (6, .int .i64 0)]) ⟨rfl, rfl, rfl, rfl, rfl, trivial⟩
        refine nrm ?_
        obtain ⟨s9, hj5, hm⟩ := bind_some hm
        refine wp_seq_cut (fun a w => Agr 99 a [(1, .pointer (some ⟨g1, 0, none⟩)), (3, v1), (4, v9), (5, .int .i64 s7.2), (6, .int .i64 s9)] ∧ St I w0 w [Ch.blk g1 [.int .i64 p0.1, va0, va1] 27, Ch.own (rSlice 4 rBool) [v1] r1, Ch.own (rSlice 3 rInt) [v9] s7.1, F]) ?_ ?_
        · replace hm := hj5
          refine wp_seq ?_
          refine wp_region_lit ?_
          refine seq_op0 haq95 hsq95 (opT_field_addr (g := g1) (b := 0) tf27_1 rfl rfl) rfl rfl ?_
          rintro u aq102 wq102 hf haq102 hsq102
          obtain rfl := Eq.symm hf
          clear haq95 hsq95 aq95 wq95
          refine seq_op haq102 hsq102 rfl (opT_load_blk (g := g1) (off := 1) (E := 27) (l := [.int .i64 p0.1, va0, va1]) (d := [va0]) (u := va0) ti22 rfl rfl rfl rfl rfl rfl) (perm_front (i := 0) rfl) rfl ?_
          rintro u aq103 wq103 hf haq103 (hsq103 : St I w0 wq103 [Ch.blk g1 [.int .i64 p0.1, va0, va1] 27, Ch.own (rSlice 3 rInt) [v9] s7.1, Ch.own (rSlice 4 rBool) [v1] r1, F])
          obtain rfl := Eq.symm hf
          clear haq102 hsq102 aq102 wq102
          refine seq_op0 haq103 hsq103 (opT_move (v := .int .i64 s7.2) rfl rfl) rfl rfl ?_
          rintro u aq104 wq104 hf haq104 hsq104
          obtain rfl := Eq.symm hf
          clear haq103 hsq103 aq103 wq103
          obtain ⟨x10, e13, hm⟩ := bind_some hm
          refine seq_op0 haq104 hsq104 (opT_index_hd (xs := p0.2.1) (i := s7.2) (n := 1) (Hd.of_rd ra0) Try.underlying22 ti4 rfl rfl rfl (getI_in e13)) rfl rfl ?_
          rintro u aq105 wq105 hf haq105 hsq105
          obtain rfl := Eq.symm hf
          clear haq104 hsq104 aq104 wq104
          refine seq_op0 haq105 hsq105 (opT_load_el (S := rBool) (xs := p0.2.1) (a := x10) (i := s7.2) (k := 1) (off := 0) (f := fun (x : Bool) => x) ra0 e13 Fld.self ti4 rfl rfl rfl rfl rfl) rfl rfl ?_
          rintro u aq106 wq106 hf haq106 hsq106
          obtain rfl := lds_one hf
          clear haq105 hsq105 aq105 wq105
          refine wpList_nil ?_
          replace haq106 := haq106.pick' (L' := [(1, .pointer (some ⟨g1, 0, none⟩)), (3, v1), (4, v9), (5, .int .i64 s7.2), (6, .int .i64 0), (28, .bool x10)]) ⟨rfl, rfl, rfl, rfl, rfl, rfl, trivial⟩
          refine nrm ?_
          rcases two (x10) with hb13 | hb13
          · replace hm := ifFe hb13 hm
            refine cnd_false (b := x10) haq106 rfl rfl hb13 ?_
            refine wp_skip ?_
            refine nrm ?_
            obtain rfl := Option.some.inj hm
            exact ⟨haq106.pick' ⟨rfl, rfl, rfl, rfl, rfl, trivial⟩, St.sel hsq106 4 [0, 2, 1, 3] rfl rfl⟩
          · replace hm := ifTe hb13 hm
            refine cnd_true (b := x10) haq106 rfl rfl hb13 ?_
            refine wp_region_lit ?_
            refine seq_op0 haq106 hsq106 (opT_assign (v := .int .i64 1) rfl rfl) rfl rfl ?_
            rintro u aq107 wq107 hf haq107 hsq107
            obtain rfl := Eq.symm hf
            clear haq106 hsq106 aq106 wq106
            refine wpList_nil ?_
            replace haq107 := haq107.pick' (L' := [(1, .pointer (some ⟨g1, 0, none⟩)), (3, v1), (4, v9), (5, .int .i64 s7.2), (6, .int .i64 1)]) ⟨rfl, rfl, rfl, rfl, rfl, trivial⟩
            refine nrm ?_
            obtain rfl := Option.some.inj hm
            exact ⟨haq107.pick' ⟨rfl, rfl, rfl, rfl, rfl, trivial⟩, St.sel hsq107 4 [0, 2, 1, 3] rfl rfl⟩
        · rintro aq108 wq108 ⟨haq108, hsq108⟩
          obtain ⟨s10, hj6, hm⟩ := bind_some hm
          refine wp_seq_cut (fun a w => Agr 99 a [(1, .pointer (some ⟨g1, 0, none⟩)), (3, v1), (4, v9), (5, .int .i64 s7.2), (6, .int .i64 s10)] ∧ St I w0 w [Ch.blk g1 [.int .i64 p0.1, va0, va1] 27, Ch.own (rSlice 4 rBool) [v1] r1, Ch.own (rSlice 3 rInt) [v9] s7.1, F]) ?_ ?_
          · replace hm := hj6
            refine wp_seq ?_
            refine wp_region_lit ?_
            refine seq_op0 haq108 hsq108 (opT_move (v := v1) rfl rfl) rfl rfl ?_
            rintro u aq115 wq115 hf haq115 hsq115
            obtain rfl := Eq.symm hf
            clear haq108 hsq108 aq108 wq108
            refine seq_op0 haq115 hsq115 (opT_move (v := .int .i64 s7.2) rfl rfl) rfl rfl ?_
            rintro u aq116 wq116 hf haq116 hsq116
            obtain rfl := Eq.symm hf
            clear haq115 hsq115 aq115 wq115
            obtain ⟨x12, e15, hm⟩ := bind_some hm
            refine seq_op0 haq116 hsq116 (opT_index_hd (xs := r1) (i := s7.2) (n := 1) (St.hd hsq116 1 rfl).1 Try.underlying22 ti4 rfl rfl rfl (getI_in e15)) rfl rfl ?_
            rintro u aq117 wq117 hf haq117 hsq117
            obtain rfl := Eq.symm hf
            clear haq116 hsq116 aq116 wq116
            refine seq_op haq117 hsq117 rfl (opT_load_own (E := 4) (R := rBool) (S := rBool) (xs := r1) (a := x12) (i := s7.2) (k := 1) (off := 0) (f := fun (x : Bool) => x) sh_bool e15 Fld.self ti4 rfl rfl rfl rfl rfl) (perm_front (i := 1) rfl) rfl ?_
            rintro u aq118 wq118 hf haq118 (hsq118 : St I w0 wq118 [Ch.own (rSlice 4 rBool) [v1] r1, Ch.blk g1 [.int .i64 p0.1, va0, va1] 27, Ch.own (rSlice 3 rInt) [v9] s7.1, F])
            obtain rfl := lds_one hf
            clear haq117 hsq117 aq117 wq117
            refine seq_op0 haq118 hsq118 (opT_not (b := x12) rfl rfl) rfl rfl ?_
            rintro u aq119 wq119 hf haq119 hsq119
            obtain rfl := Eq.symm hf
            clear haq118 hsq118 aq118 wq118
            refine wpList_nil ?_
            replace haq119 := haq119.pick' (L' := [(1, .pointer (some ⟨g1, 0, none⟩)), (3, v1), (4, v9), (5, .int .i64 s7.2), (6, .int .i64 s9), (33, .bool (!x12))]) ⟨rfl, rfl, rfl, rfl, rfl, rfl, trivial⟩
            refine nrm ?_
            rcases two (x12) with hb15 | hb15
            · replace hm := ifFe hb15 hm
              refine cnd_true (b := !x12) haq119 rfl rfl (notT hb15) ?_
              refine wp_region_lit ?_
              refine seq_op0 haq119 hsq119 (opT_assign (v := .int .i64 (-1)) rfl rfl) rfl rfl ?_
              rintro u aq120 wq120 hf haq120 hsq120
              obtain rfl := Eq.symm hf
              clear haq119 hsq119 aq119 wq119
              refine wpList_nil ?_
              replace haq120 := haq120.pick' (L' := [(1, .pointer (some ⟨g1, 0, none⟩)), (3, v1), (4, v9), (5, .int .i64 s7.2), (6, .int .i64 (-1))]) ⟨rfl, rfl, rfl, rfl, rfl, trivial⟩
              refine nrm ?_
              obtain rfl := Option.some.inj hm
              exact ⟨haq120.pick' ⟨rfl, rfl, rfl, rfl, rfl, trivial⟩, St.sel hsq120 4 [1, 0, 2, 3] rfl rfl⟩
            · replace hm := ifTe hb15 hm
              refine cnd_false (b := !x12) haq119 rfl rfl (notF hb15) ?_
              refine wp_skip ?_
              refine nrm ?_
              obtain rfl := Option.some.inj hm
              exact ⟨haq119.pick' ⟨rfl, rfl, rfl, rfl, rfl, trivial⟩, St.sel hsq119 4 [1, 0, 2, 3] rfl rfl⟩
          · rintro aq121 wq121 ⟨haq121, hsq121⟩
            refine wp_region_lit ?_
            refine seq_op0 haq121 hsq121 (opT_move (v := v9) rfl rfl) rfl rfl ?_
            rintro u aq122 wq122 hf haq122 hsq122
            obtain rfl := Eq.symm hf
            clear haq121 hsq121 aq121 wq121
            refine seq_op0 haq122 hsq122 (opT_move (v := .int .i64 s10) rfl rfl) rfl rfl ?_
            rintro u aq123 wq123 hf haq123 hsq123
            obtain rfl := Eq.symm hf
            clear haq122 hsq122 aq122 wq122
            refine seq_op haq123 hsq123 rfl (opT_lit_cpy (E := 3) (R := rInt) (S := rInt) [(.int .i64 s10, [.int .i64 s10])] [s10] cpy_int (rd_all ⟨rfl, trivial⟩) Try.underlying34 tz3 (by decide) rfl (by decide) (by decide) rfl rfl rfl rfl (us_all ⟨⟨rfl, rfl⟩, trivial⟩)) (List.Perm.refl _) rfl ?_
            rintro v10 aq124 wq124 - haq124 (hsq124 : St I w0 wq124 [Ch.own (rSlice 3 rInt) [v10] ([s10]), Ch.blk g1 [.int .i64 p0.1, va0, va1] 27, Ch.own (rSlice 4 rBool) [v1] r1, Ch.own (rSlice 3 rInt) [v9] s7.1, F])
            clear haq123 hsq123 aq123 wq123
            obtain ⟨z3, e16, hm⟩ := bind_some hm
            refine seq_op haq124 hsq124 rfl (opT_app (E := 3) (R := rInt) (s := v9) (u := v10) e16 Try.underlying34 tz3 rfl (by decide) rfl (by decide) rfl rfl rfl) (perm_sel [3, 0, 1, 2, 4] (m := 5) rfl rfl) rfl ?_
            rintro v11 aq125 wq125 - haq125 (hsq125 : St I w0 wq125 [Ch.own (rSlice 3 rInt) [v11] z3, Ch.blk g1 [.int .i64 p0.1, va0, va1] 27, Ch.own (rSlice 4 rBool) [v1] r1, F])
            clear haq124 hsq124 aq124 wq124
            refine seq_op0 haq125 hsq125 (opT_assign (v := v11) rfl rfl) rfl rfl ?_
            rintro u aq126 wq126 hf haq126 hsq126
            obtain rfl := Eq.symm hf
            clear haq125 hsq125 aq125 wq125
            refine wpList_nil ?_
            replace haq126 := haq126.pick' (L' := [(1, .pointer (some ⟨g1, 0, none⟩)), (3, v1), (4, v11), (5, .int .i64 s7.2)]) ⟨rfl, rfl, rfl, rfl, trivial⟩
            refine nrmB ?_
            refine nrm ?_
            refine wp_region_lit ?_
            refine seq_op0 haq126 hsq126 (opT_move (v := .int .i64 s7.2) rfl rfl) rfl rfl ?_
            rintro u aq127 wq127 hf haq127 hsq127
            obtain rfl := Eq.symm hf
            clear haq126 hsq126 aq126 wq126
            refine seq_op0 haq127 hsq127 (opT_add (m := s7.2) (n := 1) rfl rfl rfl) rfl rfl ?_
            rintro u aq128 wq128 hf haq128 hsq128
            obtain rfl := Eq.symm hf
            clear haq127 hsq127 aq127 wq127
            refine seq_op0 haq128 hsq128 (opT_assign (v := .int .i64 (IntKind.i64.wrap (s7.2 + 1))) rfl rfl) rfl rfl ?_
            rintro u aq129 wq129 hf haq129 hsq129
            obtain rfl := Eq.symm hf
            clear haq128 hsq128 aq128 wq128
            refine wpList_nil ?_
            replace haq129 := haq129.pick' (L' := [(1, .pointer (some ⟨g1, 0, none⟩)), (3, v1), (4, v11), (5, .int .i64 (IntKind.i64.wrap (s7.2 + 1)))]) ⟨rfl, rfl, rfl, rfl, trivial⟩
            refine nrm ?_
            exact ⟨_, (Option.some.inj hm).symm, ⟨v11, haq129.pick' ⟨rfl, rfl, rfl, rfl, trivial⟩, St.sel hsq129 4 [0, 1, 2, 3] rfl rfl⟩⟩
  · rintro aq130 wq130 ⟨s8, ho7, v8, haq130, hsq130⟩
    replace hm := loopOut ho7 hc5
    clear ho7 hc5 hl1
    refine nrm ?_
    refine wp_seq ?_
    refine wp_seq ?_
    refine wp_region_lit ?_
    refine seq_op0 haq130 hsq130 (opT_assign (v := .int .i64 0) rfl rfl) rfl rfl ?_
    rintro u aq131 wq131 hf haq131 hsq131
    obtain rfl := Eq.symm hf
    clear haq130 hsq130 aq130 wq130
    refine wpList_nil ?_
    replace haq131 := haq131.pick' (L' := [(1, .pointer (some ⟨g1, 0, none⟩)), (4, v8), (7, .int .i64 0)]) ⟨rfl, rfl, rfl, trivial⟩
    refine nrm ?_
    obtain ⟨o91, hl16, hc76⟩ := bindL_some hm
    refine wp_cut (fun a w => ∃ s124 : (List Int) × Int, o91 = .brk s124 ∧ ∃ v303 : Value, Agr 99 a [(4, v303)] ∧ St I w0 w [Ch.own (rSlice 3 rInt) [v303] s124.1, F]) ?_ ?_
    · refine wp_block (wp_loopM (R := List Int) (S := (List Int) × Int) (fun s123 a w => ∃ v304 : Value, Agr 99 a [(1, .pointer (some ⟨g1, 0, none⟩)), (4, v304), (7, .int .i64 s123.2)] ∧ St I w0 w [Ch.own (rSlice 3 rInt) [v304] s123.1, Ch.blk g1 [.int .i64 p0.1, va0, va1] 27, F]) hl16 ?_ ?_)
      · exact ⟨v8, haq131.pick' ⟨rfl, rfl, rfl, trivial⟩, St.sel hsq131 3 [0, 1, 2] rfl rfl⟩
      · rintro s123 o92 hm hf16 aq1696 wq1696 ⟨v304, haq1696, hsq1696⟩
        unfold m_s_l12Classes_l1 at hm
        refine wp_seq ?_
        refine wp_seq ?_
        refine wp_region_lit ?_
        refine seq_op0 haq1696 hsq1696 (opT_move (v := .int .i64 s123.2) rfl rfl) rfl rfl ?_
        rintro u aq1697 wq1697 hf haq1697 hsq1697
        obtain rfl := Eq.symm hf
        clear haq1696 hsq1696 aq1696 wq1696
        refine seq_op0 haq1697 hsq1697 (opT_field_addr (g := g1) (b := 0) tf27_1 rfl rfl) rfl rfl ?_
        rintro u aq1698 wq1698 hf haq1698 hsq1698
        obtain rfl := Eq.symm hf
        clear haq1697 hsq1697 aq1697 wq1697
        refine seq_op haq1698 hsq1698 rfl (opT_load_blk (g := g1) (off := 1) (E := 27) (l := [.int .i64 p0.1, va0, va1]) (d := [va0]) (u := va0) ti22 rfl rfl rfl rfl rfl rfl) (perm_front (i := 1) rfl) rfl ?_
        rintro u aq1699 wq1699 hf haq1699 (hsq1699 : St I w0 wq1699 [Ch.blk g1 [.int .i64 p0.1, va0, va1] 27, Ch.own (rSlice 3 rInt) [v304] s123.1, F])
        obtain rfl := Eq.symm hf
        clear haq1698 hsq1698 aq1698 wq1698
        refine seq_op0 haq1699 hsq1699 (opT_len_hd (v := va0) (n := p0.2.1.length) (Hd.of_rd ra0) Try.underlying22 rfl rfl) rfl rfl ?_
        rintro u aq1700 wq1700 hf haq1700 hsq1700
        obtain rfl := Eq.symm hf
        clear haq1699 hsq1699 aq1699 wq1699
        refine seq_op0 haq1700 hsq1700 (opT_cmp (k := .i64) (m := s123.2) (n := (p0.2.1.length : Int)) (c := decide (s123.2 ≤ (p0.2.1.length : Int))) rfl rfl rfl rfl rfl) rfl rfl ?_
        rintro u aq1701 wq1701 hf haq1701 hsq1701
        obtain rfl := Eq.symm hf
        clear haq1700 hsq1700 aq1700 wq1700
        refine wpList_nil ?_
        replace haq1701 := haq1701.pick' (L' := [(1, .pointer (some ⟨g1, 0, none⟩)), (4, v304), (7, .int .i64 s123.2), (42, .bool (decide (s123.2 ≤ (p0.2.1.length : Int))))]) ⟨rfl, rfl, rfl, rfl, trivial⟩
        refine nrm ?_
        rcases two (decide (s123.2 ≤ (p0.2.1.length : Int))) with hb170 | hb170
        · replace hm := ifFe hb170 hm
          refine cnd_false (b := decide (s123.2 ≤ (p0.2.1.length : Int))) haq1701 rfl rfl hb170 ?_
          refine wp_exit ?_
          refine thenX ?_
          refine thenX ?_
          refine ex_in ?_
          refine nrm ?_
          exact ⟨_, loopBrk hm hf16, ⟨v304, haq1701.pick' ⟨rfl, trivial⟩, St.sel hsq1701 3 [1, 2] rfl rfl⟩⟩
        · replace hm := ifTe hb170 hm
          refine cnd_true (b := decide (s123.2 ≤ (p0.2.1.length : Int))) haq1701 rfl rfl hb170 ?_
          refine wp_skip ?_
          refine nrm ?_
          refine wp_seq ?_
          refine wp_block ?_
          refine wp_seq ?_
          refine wp_region_lit ?_
          refine seq_op haq1701 hsq1701 rfl (opT_lit0 (E := 34) (R := rSlice 3 rInt) Try.underlying23 ti34 rfl) (List.Perm.refl _) rfl ?_
          rintro v305 aq1702 wq1702 - haq1702 (hsq1702 : St I w0 wq1702 [Ch.own (rSlice 34 (rSlice 3 rInt)) [v305] ([] : List (List Int)), Ch.blk g1 [.int .i64 p0.1, va0, va1] 27, Ch.own (rSlice 3 rInt) [v304] s123.1, F])
          clear haq1701 hsq1701 aq1701 wq1701
          refine seq_op0 haq1702 hsq1702 (opT_assign (v := v305) rfl rfl) rfl rfl ?_
          rintro u aq1703 wq1703 hf haq1703 hsq1703
          obtain rfl := Eq.symm hf
          clear haq1702 hsq1702 aq1702 wq1702
          refine wpList_nil ?_
          replace haq1703 := haq1703.pick' (L' := [(1, .pointer (some ⟨g1, 0, none⟩)), (4, v304), (7, .int .i64 s123.2), (8, v305)]) ⟨rfl, rfl, rfl, rfl, trivial⟩
          refine nrm ?_
          refine wp_seq ?_
          refine wp_region_lit ?_
          refine seq_op haq1703 hsq1703 rfl (opT_lit0 (E := 3) (R := rInt) Try.underlying34 ti3 rfl) (List.Perm.refl _) rfl ?_
          rintro v306 aq1704 wq1704 - haq1704 (hsq1704 : St I w0 wq1704 [Ch.own (rSlice 3 rInt) [v306] ([] : List Int), Ch.own (rSlice 34 (rSlice 3 rInt)) [v305] ([] : List (List Int)), Ch.blk g1 [.int .i64 p0.1, va0, va1] 27, Ch.own (rSlice 3 rInt) [v304] s123.1, F])
          clear haq1703 hsq1703 aq1703 wq1703
          refine seq_op0 haq1704 hsq1704 (opT_assign (v := v306) rfl rfl) rfl rfl ?_
          rintro u aq1705 wq1705 hf haq1705 hsq1705
          obtain rfl := Eq.symm hf
          clear haq1704 hsq1704 aq1704 wq1704
          refine wpList_nil ?_
          replace haq1705 := haq1705.pick' (L' := [(1, .pointer (some ⟨g1, 0, none⟩)), (4, v304), (7, .int .i64 s123.2), (8, v305), (9, v306)]) ⟨rfl, rfl, rfl, rfl, rfl, trivial⟩
          refine nrm ?_
          refine wp_seq ?_
          refine wp_seq ?_
          refine wp_region_lit ?_
          refine seq_op0 haq1705 hsq1705 (opT_assign (v := .int .i64 0) rfl rfl) rfl rfl ?_
          rintro u aq1706 wq1706 hf haq1706 hsq1706
          obtain rfl := Eq.symm hf
          clear haq1705 hsq1705 aq1705 wq1705
          refine wpList_nil ?_
          replace haq1706 := haq1706.pick' (L' := [(1, .pointer (some ⟨g1, 0, none⟩)), (4, v304), (7, .int .i64 s123.2), (8, v305), (9, v306), (10, .int .i64 0)]) ⟨rfl, rfl, rfl, rfl, rfl, rfl, trivial⟩
          refine nrm ?_
          obtain ⟨o119, hl21, hc99⟩ := bindL_some hm
          refine wp_cut (fun a w => ∃ s162 : (List (List Int)) × (List Int) × Int, o119 = .brk s162 ∧ ∃ v401 : Value, Agr 99 a [(1, .pointer (some ⟨g1, 0, none⟩)), (4, v304), (7, .int .i64 s123.2), (9, v401)] ∧ St I w0 w [Ch.own (rSlice 3 rInt) [v401] s162.2.1, Ch.blk g1 [.int .i64 p0.1, va0, va1] 27, Ch.own (rSlice 3 rInt) [v304] s123.1, F]) ?_ ?_
          · refine wp_block (wp_loopM (R := List Int) (S := (List (List Int)) × (List Int) × Int) (fun s161 a w => ∃ v402 v403 : Value, Agr 99 a [(1, .pointer (some ⟨g1, 0, none⟩)), (4, v304), (7, .int .i64 s123.2), (8, v402), (9, v403), (10, .int .i64 s161.2.2)] ∧ St I w0 w [Ch.own (rSlice 34 (rSlice 3 rInt)) [v402] s161.1, Ch.own (rSlice 3 rInt) [v403] s161.2.1, Ch.blk g1 [.int .i64 p0.1, va0, va1] 27, Ch.own (rSlice 3 rInt) [v304] s123.1, F]) hl21 ?_ ?_)
            · exact ⟨v305, v306, haq1706.pick' ⟨rfl, rfl, rfl, rfl, rfl, rfl, trivial⟩, St.sel hsq1706 5 [1, 0, 2, 3, 4] rfl rfl⟩
            · rintro s161 o120 hm hf21 aq2213 wq2213 ⟨v402, v403, haq2213, hsq2213⟩
              unfold m_s_l12Classes_l2 at hm
              refine wp_seq ?_
              refine wp_seq ?_
              refine wp_region_lit ?_
              refine seq_op0 haq2213 hsq2213 (opT_move (v := .int .i64 s161.2.2) rfl rfl) rfl rfl ?_
              rintro u aq2214 wq2214 hf haq2214 hsq2214
              obtain rfl := Eq.symm hf
              clear haq2213 hsq2213 aq2213 wq2213
              refine seq_op0 haq2214 hsq2214 (opT_field_addr (g := g1) (b := 0) tf27_1 rfl rfl) rfl rfl ?_
              rintro u aq2215 wq2215 hf haq2215 hsq2215
              obtain rfl := Eq.symm hf
              clear haq2214 hsq2214 aq2214 wq2214
              refine seq_op haq2215 hsq2215 rfl (opT_load_blk (g := g1) (off := 1) (E := 27) (l := [.int .i64 p0.1, va0, va1]) (d := [va0]) (u := va0) ti22 rfl rfl rfl rfl rfl rfl) (perm_front (i := 2) rfl) rfl ?_
              rintro u aq2216 wq2216 hf haq2216 (hsq2216 : St I w0 wq2216 [Ch.blk g1 [.int .i64 p0.1, va0, va1] 27, Ch.own (rSlice 34 (rSlice 3 rInt)) [v402] s161.1, Ch.own (rSlice 3 rInt) [v403] s161.2.1, Ch.own (rSlice 3 rInt) [v304] s123.1, F])
              obtain rfl := Eq.symm hf
              clear haq2215 hsq2215 aq2215 wq2215
              refine seq_op0 haq2216 hsq2216 (opT_len_hd (v := va0) (n := p0.2.1.length) (Hd.of_rd ra0) Try.underlying22 rfl rfl) rfl rfl ?_
              rintro u aq2217 wq2217 hf haq2217 hsq2217
              obtain rfl := Eq.symm hf
              clear haq2216 hsq2216 aq2216 wq2216
              refine seq_op0 haq2217 hsq2217 (opT_cmp (k := .i64) (m := s161.2.2) (n := (p0.2.1.length : Int)) (c := decide (s161.2.2 < (p0.2.1.length : Int))) rfl rfl rfl rfl rfl) rfl rfl ?_
              rintro u aq2218 wq2218 hf haq2218 hsq2218
              obtain rfl := Eq.symm hf
              clear haq2217 hsq2217 aq2217 wq2217
              refine wpList_nil ?_
              replace haq2218 := haq2218.pick' (L' := [(1, .pointer (some ⟨g1, 0, none⟩)), (4, v304), (7, .int .i64 s123.2), (8, v402), (9, v403), (10, .int .i64 s161.2.2), (51, .bool (decide (s161.2.2 < (p0.2.1.length : Int))))]) ⟨rfl, rfl, rfl, rfl, rfl, rfl, rfl, trivial⟩
              refine nrm ?_
              rcases two (decide (s161.2.2 < (p0.2.1.length : Int))) with hb221 | hb221
              · replace hm := ifFe hb221 hm
                refine cnd_false (b := decide (s161.2.2 < (p0.2.1.length : Int))) haq2218 rfl rfl hb221 ?_
                refine wp_exit ?_
                refine thenX ?_
                refine thenX ?_
                refine ex_in ?_
                refine nrm ?_
                exact ⟨_, loopBrk hm hf21, ⟨v403, haq2218.pick' ⟨rfl, rfl, rfl, rfl, trivial⟩, St.sel hsq2218 5 [2, 0, 3, 4] rfl rfl⟩⟩
              · replace hm := ifTe hb221 hm
                refine cnd_true (b := decide (s161.2.2 < (p0.2.1.length : Int))) haq2218 rfl rfl hb221 ?_
                refine wp_skip ?_
                refine nrm ?_
                obtain ⟨s171, hj83, hm⟩ := bind_some hm
                refine wp_seq_cut (fun a w => ∃ v426 v427 : Value, Agr 99 a [(1, .pointer (some ⟨g1, 0, none⟩)), (4, v304), (7, .int .i64 s123.2), (8, v426), (9, v427), (10, .int .i64 s161.2.2)] ∧ St I w0 w [Ch.own (rSlice 34 (rSlice 3 rInt)) [v426] s171.1, Ch.own (rSlice 3 rInt) [v427] s171.2, Ch.blk g1 [.int .i64 p0.1, va0, va1] 27, Ch.own (rSlice 3 rInt) [v304] s123.1, F]) ?_ ?_
                · replace hm := hj83
                  refine wp_block ?_
                  refine wp_seq ?_
                  refine wp_seq ?_
                  refine wp_region_lit ?_
                  refine seq_op0 haq2218 hsq2218 (opT_move (v := v304) rfl rfl) rfl rfl ?_
                  rintro u aq2341 wq2341 hf haq2341 hsq2341
                  obtain rfl := Eq.symm hf
                  clear haq2218 hsq2218 aq2218 wq2218
                  refine seq_op0 haq2341 hsq2341 (opT_move (v := .int .i64 s161.2.2) rfl rfl) rfl rfl ?_
                  rintro u aq2342 wq2342 hf haq2342 hsq2342
                  obtain rfl := Eq.symm hf
                  clear haq2341 hsq2341 aq2341 wq2341
                  obtain ⟨x132, e325, hm⟩ := bind_some hm
                  refine seq_op0 haq2342 hsq2342 (opT_index_hd (xs := s123.1) (i := s161.2.2) (n := 1) (St.hd hsq2342 3 rfl).1 Try.underlying34 ti3 rfl rfl rfl (getI_in e325)) rfl rfl ?_
                  rintro u aq2343 wq2343 hf haq2343 hsq2343
                  obtain rfl := Eq.symm hf
                  clear haq2342 hsq2342 aq2342 wq2342
                  refine seq_op haq2343 hsq2343 rfl (opT_load_own (E := 3) (R := rInt) (S := rInt) (xs := s123.1) (a := x132) (i := s161.2.2) (k := 1) (off := 0) (f := fun (x : Int) => x) sh_int e325 Fld.self ti3 rfl rfl rfl rfl rfl) (perm_front (i := 3) rfl) rfl ?_
                  rintro u aq2344 wq2344 hf haq2344 (hsq2344 : St I w0 wq2344 [Ch.own (rSlice 3 rInt) [v304] s123.1, Ch.blk g1 [.int .i64 p0.1, va0, va1] 27, Ch.own (rSlice 34 (rSlice 3 rInt)) [v402] s161.1, Ch.own (rSlice 3 rInt) [v403] s161.2.1, F])
                  obtain rfl := lds_one hf
                  clear haq2343 hsq2343 aq2343 wq2343
                  refine seq_op0 haq2344 hsq2344 (opT_cmp (k := .i64) (m := x132) (n := 0) (c := decide (x132 < 0)) rfl rfl rfl rfl rfl) rfl rfl ?_
                  rintro u aq2345 wq2345 hf haq2345 hsq2345
                  obtain rfl := Eq.symm hf
                  clear haq2344 hsq2344 aq2344 wq2344
                  refine wpList_nil ?_
                  replace haq2345 := haq2345.pick' (L' := [(1, .pointer (some ⟨g1, 0, none⟩)), (4, v304), (7, .int .i64 s123.2), (8, v402), (9, v403), (10, .int .i64 s161.2.2), (58, .bool (decide (x132 < 0)))]) ⟨rfl, rfl, rfl, rfl, rfl, rfl, rfl, trivial⟩
                  refine nrm ?_
                  rcases two (decide (x132 < 0)) with hb234 | hb234
                  · replace hm := ifFe hb234 hm
                    refine cnd_false (b := decide (x132 < 0)) haq2345 rfl rfl hb234 ?_
                    refine wp_skip ?_
                    refine nrm ?_
                    refine wp_seq ?_
                    refine wp_region_lit ?_
                    refine seq_op haq2345 hsq2345 rfl (opT_load_blk (g := g1) (off := 0) (E := 27) (l := [.int .i64 p0.1, va0, va1]) (d := [.int .i64 p0.1, va0, va1]) (u := .agg #[.int .i64 p0.1, va0, va1]) ti27 rfl rfl rfl rfl rfl rfl) (perm_front (i := 1) rfl) rfl ?_
                    rintro u aq2346 wq2346 hf haq2346 (hsq2346 : St I w0 wq2346 [Ch.blk g1 [.int .i64 p0.1, va0, va1] 27, Ch.own (rSlice 3 rInt) [v304] s123.1, Ch.own (rSlice 34 (rSlice 3 rInt)) [v402] s161.1, Ch.own (rSlice 3 rInt) [v403] s161.2.1, F])
                    obtain rfl := Eq.symm hf
                    clear haq2345 hsq2345 aq2345 wq2345
                    refine seq_op0 haq2346 hsq2346 (opT_move (v := v304) rfl rfl) rfl rfl ?_
                    rintro u aq2347 wq2347 hf haq2347 hsq2347
                    obtain rfl := Eq.symm hf
                    clear haq2346 hsq2346 aq2346 wq2346
                    refine seq_op0 haq2347 hsq2347 (opT_move (v := .int .i64 s161.2.2) rfl rfl) rfl rfl ?_
                    rintro u aq2348 wq2348 hf haq2348 hsq2348
                    obtain rfl := Eq.symm hf
                    clear haq2347 hsq2347 aq2347 wq2347
                    obtain ⟨r225, e326, hm⟩ := bind_some hm
                    refine seq_op haq2348 hsq2348 rfl (OpT.lend (ls := [Ch.own (rSlice 3 rInt) [v304] s123.1]) (gv := fun v => [Ch.own (rSlice 3 rInt) [v] r225]) (fun _ => ⟨dp_own (dp_slice dp_int), trivial⟩) fun J hJ hl hb => opT_call (args := #[.agg #[.int .i64 p0.1, va0, va1], v304, .int .i64 s161.2.2]) (first := #[]) (captured := #[]) en150 rfl rfl rfl (c_s_l12Key (p0.1, p0.2.1, p0.2.2) s123.1 s161.2.2 _ e326 va0 va1 v304 (Rep.rd_mono _ ra0 hJ) (Rep.rd_mono _ ra1 hJ) (hl _ _ _ (List.Mem.head _)))) (perm_front (i := 1) rfl) rfl ?_
                    rintro v428 aq2349 wq2349 - haq2349 (hsq2349 : St I w0 wq2349 [Ch.own (rSlice 3 rInt) [v428] r225, Ch.own (rSlice 3 rInt) [v304] s123.1, Ch.blk g1 [.int .i64 p0.1, va0, va1] 27, Ch.own (rSlice 34 (rSlice 3 rInt)) [v402] s161.1, Ch.own (rSlice 3 rInt) [v403] s161.2.1, F])
                    clear haq2348 hsq2348 aq2348 wq2348
                    refine seq_op0 haq2349 hsq2349 (opT_assign (v := v428) rfl rfl) rfl rfl ?_
                    rintro u aq2350 wq2350 hf haq2350 hsq2350
                    obtain rfl := Eq.symm hf
                    clear haq2349 hsq2349 aq2349 wq2349
                    refine wpList_nil ?_
                    replace haq2350 := haq2350.pick' (L' := [(1, .pointer (some ⟨g1, 0, none⟩)), (4, v304), (7, .int .i64 s123.2), (8, v402), (9, v403), (10, .int .i64 s161.2.2), (11, v428)]) ⟨rfl, rfl, rfl, rfl, rfl, rfl, rfl, trivial⟩
                    refine nrm ?_
                    refine wp_seq ?_
                    refine wp_region_lit ?_
                    refine seq_op0 haq2350 hsq2350 (opT_assign (v := .int .i64 (-1)) rfl rfl) rfl rfl ?_
                    rintro u aq2351 wq2351 hf haq2351 hsq2351
                    obtain rfl := Eq.symm hf
                    clear haq2350 hsq2350 aq2350 wq2350
                    refine wpList_nil ?_
                    replace haq2351 := haq2351.pick' (L' := [(1, .pointer (some ⟨g1, 0, none⟩)), (4, v304), (7, .int .i64 s123.2), (8, v402), (9, v403), (10, .int .i64 s161.2.2), (11, v428), (12, .int .i64 (-1))]) ⟨rfl, rfl, rfl, rfl, rfl, rfl, rfl, rfl, trivial⟩
                    refine nrm ?_
                    refine wp_seq ?_
                    refine wp_seq ?_
                    refine wp_region_lit ?_
                    refine seq_op0 haq2351 hsq2351 (opT_assign (v := .int .i64 0) rfl rfl) rfl rfl ?_
                    rintro u aq2352 wq2352 hf haq2352 hsq2352
                    obtain rfl := Eq.symm hf
                    clear haq2351 hsq2351 aq2351 wq2351
                    refine wpList_nil ?_
                    replace haq2352 := haq2352.pick' (L' := [(1, .pointer (some ⟨g1, 0, none⟩)), (4, v304), (7, .int .i64 s123.2), (8, v402), (9, v403), (10, .int .i64 s161.2.2), (11, v428), (12, .int .i64 (-1)), (13, .int .i64 0)]) ⟨rfl, rfl, rfl, rfl, rfl, rfl, rfl, rfl, rfl, trivial⟩
                    refine nrm ?_
                    obtain ⟨o130, hl23, hc108⟩ := bindL_some hm
                    refine wp_cut (fun a w => ∃ s177 : (List (List Int)) × Int × Int, o130 = .brk s177 ∧ Agr 99 a [(1, .pointer (some ⟨g1, 0, none⟩)), (4, v304), (7, .int .i64 s123.2), (8, v402), (9, v403), (10, .int .i64 s161.2.2), (11, v428), (12, .int .i64 s177.2.1)] ∧ St I w0 w [Ch.own (rSlice 34 (rSlice 3 rInt)) [v402] s177.1, Ch.blk g1 [.int .i64 p0.1, va0, va1] 27, Ch.own (rSlice 3 rInt) [v304] s123.1, Ch.own (rSlice 3 rInt) [v403] s161.2.1, Ch.own (rSlice 3 rInt) [v428] r225, F]) ?_ ?_
                    · refine wp_block (wp_loopM (R := List Int) (S := (List (List Int)) × Int × Int) (fun s176 a w => Agr 99 a [(1, .pointer (some ⟨g1, 0, none⟩)), (4, v304), (7, .int .i64 s123.2), (8, v402), (9, v403), (10, .int .i64 s161.2.2), (11, v428), (12, .int .i64 s176.2.1), (13, .int .i64 s176.2.2)] ∧ St I w0 w [Ch.own (rSlice 34 (rSlice 3 rInt)) [v402] s176.1, Ch.blk g1 [.int .i64 p0.1, va0, va1] 27, Ch.own (rSlice 3 rInt) [v304] s123.1, Ch.own (rSlice 3 rInt) [v403] s161.2.1, Ch.own (rSlice 3 rInt) [v428] r225, F]) hl23 ?_ ?_)
                      · exact ⟨haq2352.pick' ⟨rfl, rfl, rfl, rfl, rfl, rfl, rfl, rfl, rfl, trivial⟩, St.sel hsq2352 6 [3, 2, 1, 4, 0, 5] rfl rfl⟩
                      · rintro s176 o131 hm hf23 aq2405 wq2405 ⟨haq2405, hsq2405⟩
                        unfold m_s_l12Classes_l3 at hm
                        refine wp_seq ?_
                        refine wp_seq ?_
                        refine wp_region_lit ?_
                        refine seq_op0 haq2405 hsq2405 (opT_move (v := .int .i64 s176.2.2) rfl rfl) rfl rfl ?_
                        rintro u aq2406 wq2406 hf haq2406 hsq2406
                        obtain rfl := Eq.symm hf
                        clear haq2405 hsq2405 aq2405 wq2405
                        refine seq_op0 haq2406 hsq2406 (opT_move (v := v402) rfl rfl) rfl rfl ?_
                        rintro u aq2407 wq2407 hf haq2407 hsq2407
                        obtain rfl := Eq.symm hf
                        clear haq2406 hsq2406 aq2406 wq2406
                        refine seq_op0 haq2407 hsq2407 (opT_len_hd (v := v402) (n := s176.1.length) (St.hd hsq2407 0 rfl).1 Try.underlying23 rfl rfl) rfl rfl ?_
                        rintro u aq2408 wq2408 hf haq2408 hsq2408
                        obtain rfl := Eq.symm hf
                        clear haq2407 hsq2407 aq2407 wq2407
                        refine seq_op0 haq2408 hsq2408 (opT_cmp (k := .i64) (m := s176.2.2) (n := (s176.1.length : Int)) (c := decide (s176.2.2 < (s176.1.length : Int))) rfl rfl rfl rfl rfl) rfl rfl ?_
                        rintro u aq2409 wq2409 hf haq2409 hsq2409
                        obtain rfl := Eq.symm hf
                        clear haq2408 hsq2408 aq2408 wq2408
                        refine wpList_nil ?_
                        replace haq2409 := haq2409.pick' (L' := [(1, .pointer (some ⟨g1, 0, none⟩)), (4, v304), (7, .int .i64 s123.2), (8, v402), (9, v403), (10, .int .i64 s161.2.2), (11, v428), (12, .int .i64 s176.2.1), (13, .int .i64 s176.2.2), (69, .bool (decide (s176.2.2 < (s176.1.length : Int))))]) ⟨rfl, rfl, rfl, rfl, rfl, rfl, rfl, rfl, rfl, rfl, trivial⟩
                        refine nrm ?_
                        rcases two (decide (s176.2.2 < (s176.1.length : Int))) with hb241 | hb241
                        · replace hm := ifFe hb241 hm
                          refine cnd_false (b := decide (s176.2.2 < (s176.1.length : Int))) haq2409 rfl rfl hb241 ?_
                          refine wp_exit ?_
                          refine thenX ?_
                          refine thenX ?_
                          refine ex_in ?_
                          refine nrm ?_
                          exact ⟨_, loopBrk hm hf23, ⟨haq2409.pick' ⟨rfl, rfl, rfl, rfl, rfl, rfl, rfl, rfl, trivial⟩, St.sel hsq2409 6 [0, 1, 2, 3, 4, 5] rfl rfl⟩⟩
                        · replace hm := ifTe hb241 hm
                          refine cnd_true (b := decide (s176.2.2 < (s176.1.length : Int))) haq2409 rfl rfl hb241 ?_
                          refine wp_skip ?_
                          refine nrm ?_
                          obtain ⟨s178, hj86, hm⟩ := bind_some hm
                          refine wp_seq_cut (fun a w => Agr 99 a [(1, .pointer (some ⟨g1, 0, none⟩)), (4, v304), (7, .int .i64 s123.2), (8, v402), (9, v403), (10, .int .i64 s161.2.2), (11, v428), (12, .int .i64 s178.2), (13, .int .i64 s176.2.2)] ∧ St I w0 w [Ch.own (rSlice 34 (rSlice 3 rInt)) [v402] s178.1, Ch.blk g1 [.int .i64 p0.1, va0, va1] 27, Ch.own (rSlice 3 rInt) [v304] s123.1, Ch.own (rSlice 3 rInt) [v403] s161.2.1, Ch.own (rSlice 3 rInt) [v428] r225, F]) ?_ ?_
                          · replace hm := hj86
                            refine wp_block ?_
                            refine wp_seq ?_
                            refine wp_region_lit ?_
                            refine seq_op0 haq2409 hsq2409 (opT_move (v := v402) rfl rfl) rfl rfl ?_
                            rintro u aq2419 wq2419 hf haq2419 hsq2419
                            obtain rfl := Eq.symm hf
                            clear haq2409 hsq2409 aq2409 wq2409
                            refine seq_op0 haq2419 hsq2419 (opT_move (v := .int .i64 s176.2.2) rfl rfl) rfl rfl ?_
                            rintro u aq2420 wq2420 hf haq2420 hsq2420
                            obtain rfl := Eq.symm hf
                            clear haq2419 hsq2419 aq2419 wq2419
                            obtain ⟨x138, e337, hm⟩ := bind_some hm
                            refine seq_op0 haq2420 hsq2420 (opT_index_hd (xs := s176.1) (i := s176.2.2) (n := 1) (St.hd hsq2420 0 rfl).1 Try.underlying23 ti34 rfl rfl rfl (getI_in e337)) rfl rfl ?_
                            rintro u aq2421 wq2421 hf haq2421 hsq2421
                            obtain rfl := Eq.symm hf
                            clear haq2420 hsq2420 aq2420 wq2420
                            refine seq_op haq2421 hsq2421 rfl (opT_borrow (E := 34) (R := rSlice 3 rInt) (xs := s176.1) (y := x138) (i := s176.2.2) (k := 1) e337 ti34 rfl rfl rfl rfl) (perm_front (i := 0) rfl) rfl ?_
                            rintro v440 aq2422 wq2422 - haq2422 (hsq2422 : St I w0 wq2422 [Ch.own (rSlice 3 rInt) [v440] x138, Ch.hole 34 (rSlice 3 rInt) v402 [v440] s176.1 s176.2.2.toNat, Ch.blk g1 [.int .i64 p0.1, va0, va1] 27, Ch.own (rSlice 3 rInt) [v304] s123.1, Ch.own (rSlice 3 rInt) [v403] s161.2.1, Ch.own (rSlice 3 rInt) [v428] r225, F])
                            clear haq2421 hsq2421 aq2421 wq2421
                            refine seq_op0 haq2422 hsq2422 (opT_move (v := v428) rfl rfl) rfl rfl ?_
                            rintro u aq2423 wq2423 hf haq2423 hsq2423
                            obtain rfl := Eq.symm hf
                            clear haq2422 hsq2422 aq2422 wq2422
                            obtain ⟨r237, e338, hm⟩ := bind_some hm
                            refine seq_op haq2423 hsq2423 rfl (OpT.lend (ls := [Ch.own (rSlice 3 rInt) [v440] x138, Ch.own (rSlice 3 rInt) [v428] r225]) (gv := fun v => []) (fun _ => trivial) fun J hJ hl hb => opT_call (args := #[v440, v428]) (first := #[]) (captured := #[]) en104 rfl rfl rfl (c_s_l2Cmp x138 r225 _ e338 v440 v428 (hl _ _ _ (List.Mem.head _)) (hl _ _ _ (List.Mem.tail _ (List.Mem.head _))))) (perm_sel [0, 5, 1, 2, 3, 4, 6] (m := 7) rfl rfl) rfl ?_
                            rintro u aq2424 wq2424 hf haq2424 (hsq2424 : St I w0 wq2424 [Ch.own (rSlice 3 rInt) [v440] x138, Ch.own (rSlice 3 rInt) [v428] r225, Ch.hole 34 (rSlice 3 rInt) v402 [v440] s176.1 s176.2.2.toNat, Ch.blk g1 [.int .i64 p0.1, va0, va1] 27, Ch.own (rSlice 3 rInt) [v304] s123.1, Ch.own (rSlice 3 rInt) [v403] s161.2.1, F])
                            obtain rfl := Eq.symm hf
                            clear haq2423 hsq2423 aq2423 wq2423
                            refine seq_op0 haq2424 hsq2424 (opT_cmp (k := .i64) (m := r237) (n := 0) (c := r237 == 0) rfl rfl rfl rfl rfl) rfl rfl ?_
                            rintro u aq2425 wq2425 hf haq2425 hsq2425
                            obtain rfl := Eq.symm hf
                            clear haq2424 hsq2424 aq2424 wq2424
                            refine wpList_nil ?_
                            replace haq2425 := haq2425.pick' (L' := [(1, .pointer (some ⟨g1, 0, none⟩)), (4, v304), (7, .int .i64 s123.2), (8, v402), (9, v403), (10, .int .i64 s161.2.2), (11, v428), (12, .int .i64 s176.2.1), (13, .int .i64 s176.2.2), (78, .bool (r237 == 0))]) ⟨rfl, rfl, rfl, rfl, rfl, rfl, rfl, rfl, rfl, rfl, trivial⟩
                            replace hsq2425 : St I w0 wq2425 [Ch.own (rSlice 3 rInt) [v440] x138, Ch.hole 34 (rSlice 3 rInt) v402 [v440] s176.1 s176.2.2.toNat, Ch.own (rSlice 3 rInt) [v428] r225, Ch.blk g1 [.int .i64 p0.1, va0, va1] 27, Ch.own (rSlice 3 rInt) [v304] s123.1, Ch.own (rSlice 3 rInt) [v403] s161.2.1, F] := St.sel hsq2425 7 [0, 2, 1, 3, 4, 5, 6] rfl rfl
                            replace hsq2425 : St I w0 wq2425 [Ch.own (rSlice 34 (rSlice 3 rInt)) [v402] (s176.1.set s176.2.2.toNat x138), Ch.own (rSlice 3 rInt) [v428] r225, Ch.blk g1 [.int .i64 p0.1, va0, va1] 27, Ch.own (rSlice 3 rInt) [v304] s123.1, Ch.own (rSlice 3 rInt) [v403] s161.2.1, F] := St.putback hsq2425
                            refine nrm ?_
                            rcases two (r237 == 0) with hb243 | hb243
                            · replace hm := ifFe hb243 hm
                              refine cnd_false (b := r237 == 0) haq2425 rfl rfl hb243 ?_
                              refine wp_skip ?_
                              refine nrmB ?_
                              refine nrm ?_
                              obtain rfl := Option.some.inj hm
                              exact ⟨haq2425.pick' ⟨rfl, rfl, rfl, rfl, rfl, rfl, rfl, rfl, rfl, trivial⟩, St.sel hsq2425 6 [0, 2, 3, 4, 1, 5] rfl rfl⟩
                            · replace hm := ifTe hb243 hm
                              refine cnd_true (b := r237 == 0) haq2425 rfl rfl hb243 ?_
                              refine wp_region_lit ?_
                              refine seq_op0 haq2425 hsq2425 (opT_move (v := .int .i64 s176.2.2) rfl rfl) rfl rfl ?_
                              rintro u aq2426 wq2426 hf haq2426 hsq2426
                              obtain rfl := Eq.symm hf
                              clear haq2425 hsq2425 aq2425 wq2425
                              refine seq_op0 haq2426 hsq2426 (opT_assign (v := .int .i64 s176.2.2) rfl rfl) rfl rfl ?_
                              rintro u aq2427 wq2427 hf haq2427 hsq2427
                              obtain rfl := Eq.symm hf
                              clear haq2426 hsq2426 aq2426 wq2426
                              refine wpList_nil ?_
                              replace haq2427 := haq2427.pick' (L' := [(1, .pointer (some ⟨g1, 0, none⟩)), (4, v304), (7, .int .i64 s123.2), (8, v402), (9, v403), (10, .int .i64 s161.2.2), (11, v428), (12, .int .i64 s176.2.2), (13, .int .i64 s176.2.2)]) ⟨rfl, rfl, rfl, rfl, rfl, rfl, rfl, rfl, rfl, trivial⟩
                              refine nrmB ?_
                              refine nrm ?_
                              obtain rfl := Option.some.inj hm
                              exact ⟨haq2427.pick' ⟨rfl, rfl, rfl, rfl, rfl, rfl, rfl, rfl, rfl, trivial⟩, St.sel hsq2427 6 [0, 2, 3, 4, 1, 5] rfl rfl⟩
                          · rintro aq2428 wq2428 ⟨haq2428, hsq2428⟩
                            refine wp_region_lit ?_
                            refine seq_op0 haq2428 hsq2428 (opT_move (v := .int .i64 s176.2.2) rfl rfl) rfl rfl ?_
                            rintro u aq2429 wq2429 hf haq2429 hsq2429
                            obtain rfl := Eq.symm hf
                            clear haq2428 hsq2428 aq2428 wq2428
                            refine seq_op0 haq2429 hsq2429 (opT_add (m := s176.2.2) (n := 1) rfl rfl rfl) rfl rfl ?_
                            rintro u aq2430 wq2430 hf haq2430 hsq2430
                            obtain rfl := Eq.symm hf
                            clear haq2429 hsq2429 aq2429 wq2429
                            refine seq_op0 haq2430 hsq2430 (opT_assign (v := .int .i64 (IntKind.i64.wrap (s176.2.2 + 1))) rfl rfl) rfl rfl ?_
                            rintro u aq2431 wq2431 hf haq2431 hsq2431
                            obtain rfl := Eq.symm hf
                            clear haq2430 hsq2430 aq2430 wq2430
                            refine wpList_nil ?_
                            replace haq2431 := haq2431.pick' (L' := [(1, .pointer (some ⟨g1, 0, none⟩)), (4, v304), (7, .int .i64 s123.2), (8, v402), (9, v403), (10, .int .i64 s161.2.2), (11, v428), (12, .int .i64 s178.2), (13, .int .i64 (IntKind.i64.wrap (s176.2.2 + 1)))]) ⟨rfl, rfl, rfl, rfl, rfl, rfl, rfl, rfl, rfl, trivial⟩
                            refine nrm ?_
                            exact ⟨_, (Option.some.inj hm).symm, ⟨haq2431.pick' ⟨rfl, rfl, rfl, rfl, rfl, rfl, rfl, rfl, rfl, trivial⟩, St.sel hsq2431 6 [0, 1, 2, 3, 4, 5] rfl rfl⟩⟩
                    · rintro aq2432 wq2432 ⟨s177, ho106, haq2432, hsq2432⟩
                      replace hm := loopOut ho106 hc108
                      clear ho106 hc108 hl23
                      refine nrm ?_
                      obtain ⟨s179, hj87, hm⟩ := bind_some hm
                      refine wp_seq_cut (fun a w => ∃ v443 : Value, Agr 99 a [(1, .pointer (some ⟨g1, 0, none⟩)), (4, v304), (7, .int .i64 s123.2), (8, v443), (9, v403), (10, .int .i64 s161.2.2), (12, .int .i64 s179.2)] ∧ St I w0 w [Ch.own (rSlice 34 (rSlice 3 rInt)) [v443] s179.1, Ch.blk g1 [.int .i64 p0.1, va0, va1] 27, Ch.own (rSlice 3 rInt) [v304] s123.1, Ch.own (rSlice 3 rInt) [v403] s161.2.1, F]) ?_ ?_
                      · replace hm := hj87
                        refine wp_seq ?_
                        refine wp_region_lit ?_
                        refine seq_op0 haq2432 hsq2432 (opT_move (v := .int .i64 s177.2.1) rfl rfl) rfl rfl ?_
                        rintro u aq2443 wq2443 hf haq2443 hsq2443
                        obtain rfl := Eq.symm hf
                        clear haq2432 hsq2432 aq2432 wq2432
                        refine seq_op0 haq2443 hsq2443 (opT_cmp (k := .i64) (m := s177.2.1) (n := 0) (c := decide (s177.2.1 < 0)) rfl rfl rfl rfl rfl) rfl rfl ?_
                        rintro u aq2444 wq2444 hf haq2444 hsq2444
                        obtain rfl := Eq.symm hf
                        clear haq2443 hsq2443 aq2443 wq2443
                        refine wpList_nil ?_
                        replace haq2444 := haq2444.pick' (L' := [(1, .pointer (some ⟨g1, 0, none⟩)), (4, v304), (7, .int .i64 s123.2), (8, v402), (9, v403), (10, .int .i64 s161.2.2), (11, v428), (12, .int .i64 s177.2.1), (81, .bool (decide (s177.2.1 < 0)))]) ⟨rfl, rfl, rfl, rfl, rfl, rfl, rfl, rfl, rfl, trivial⟩
                        refine nrm ?_
                        rcases two (decide (s177.2.1 < 0)) with hb245 | hb245
                        · replace hm := ifFe hb245 hm
                          refine cnd_false (b := decide (s177.2.1 < 0)) haq2444 rfl rfl hb245 ?_
                          refine wp_skip ?_
                          refine nrm ?_
                          obtain rfl := Option.some.inj hm
                          exact ⟨v402, haq2444.pick' ⟨rfl, rfl, rfl, rfl, rfl, rfl, rfl, trivial⟩, St.sel hsq2444 6 [0, 1, 2, 3, 5] rfl rfl⟩
                        · replace hm := ifTe hb245 hm
                          refine cnd_true (b := decide (s177.2.1 < 0)) haq2444 rfl rfl hb245 ?_
                          refine wp_seq ?_
                          refine wp_region_lit ?_
                          refine seq_op0 haq2444 hsq2444 (opT_move (v := v402) rfl rfl) rfl rfl ?_
                          rintro u aq2445 wq2445 hf haq2445 hsq2445
                          obtain rfl := Eq.symm hf
                          clear haq2444 hsq2444 aq2444 wq2444
                          refine seq_op0 haq2445 hsq2445 (opT_len_hd (v := v402) (n := s177.1.length) (St.hd hsq2445 0 rfl).1 Try.underlying23 rfl rfl) rfl rfl ?_
                          rintro u aq2446 wq2446 hf haq2446 hsq2446
                          obtain rfl := Eq.symm hf
                          clear haq2445 hsq2445 aq2445 wq2445
                          refine seq_op0 haq2446 hsq2446 (opT_assign (v := .int .i64 (s177.1.length : Int)) rfl rfl) rfl rfl ?_
                          rintro u aq2447 wq2447 hf haq2447 hsq2447
                          obtain rfl := Eq.symm hf
                          clear haq2446 hsq2446 aq2446 wq2446
                          refine wpList_nil ?_
                          replace haq2447 := haq2447.pick' (L' := [(1, .pointer (some ⟨g1, 0, none⟩)), (4, v304), (7, .int .i64 s123.2), (8, v402), (9, v403), (10, .int .i64 s161.2.2), (11, v428), (12, .int .i64 (s177.1.length : Int))]) ⟨rfl, rfl, rfl, rfl, rfl, rfl, rfl, rfl, trivial⟩
                          refine nrm ?_
                          refine wp_region_lit ?_
                          refine seq_op0 haq2447 hsq2447 (opT_move (v := v402) rfl rfl) rfl rfl ?_
                          rintro u aq2448 wq2448 hf haq2448 hsq2448
                          obtain rfl := Eq.symm hf
                          clear haq2447 hsq2447 aq2447 wq2447
                          refine seq_op0 haq2448 hsq2448 (opT_move (v := v428) rfl rfl) rfl rfl ?_
                          rintro u aq2449 wq2449 hf haq2449 hsq2449
                          obtain rfl := Eq.symm hf
                          clear haq2448 hsq2448 aq2448 wq2448
                          refine seq_op haq2449 hsq2449 rfl (opT_lit (E := 34) (R := rSlice 3 rInt) [(v428, [v428])] [r225] Try.underlying23 tz34 (by decide) rfl (by decide) (by decide) rfl rfl rfl rfl (us_all ⟨⟨(Hd.cells (St.hd hsq2449 4 rfl).1), rfl⟩, trivial⟩)) (perm_front (i := 4) rfl) rfl ?_
                          rintro v444 aq2450 wq2450 - haq2450 (hsq2450 : St I w0 wq2450 [Ch.own (rSlice 34 (rSlice 3 rInt)) [v444] ([r225]), Ch.own (rSlice 34 (rSlice 3 rInt)) [v402] s177.1, Ch.blk g1 [.int .i64 p0.1, va0, va1] 27, Ch.own (rSlice 3 rInt) [v304] s123.1, Ch.own (rSlice 3 rInt) [v403] s161.2.1, F])
                          clear haq2449 hsq2449 aq2449 wq2449
                          obtain ⟨z73, e340, hm⟩ := bind_some hm
                          refine seq_op haq2450 hsq2450 rfl (opT_app (E := 34) (R := rSlice 3 rInt) (s := v402) (u := v444) e340 Try.underlying23 tz34 rfl (by decide) rfl (by decide) rfl rfl rfl) (perm_sel [1, 0, 2, 3, 4, 5] (m := 6) rfl rfl) rfl ?_
                          rintro v445 aq2451 wq2451 - haq2451 (hsq2451 : St I w0 wq2451 [Ch.own (rSlice 34 (rSlice 3 rInt)) [v445] z73, Ch.blk g1 [.int .i64 p0.1, va0, va1] 27, Ch.own (rSlice 3 rInt) [v304] s123.1, Ch.own (rSlice 3 rInt) [v403] s161.2.1, F])
                          clear haq2450 hsq2450 aq2450 wq2450
                          refine seq_op0 haq2451 hsq2451 (opT_assign (v := v445) rfl rfl) rfl rfl ?_
                          rintro u aq2452 wq2452 hf haq2452 hsq2452
                          obtain rfl := Eq.symm hf
                          clear haq2451 hsq2451 aq2451 wq2451
                          refine wpList_nil ?_
                          replace haq2452 := haq2452.pick' (L' := [(1, .pointer (some ⟨g1, 0, none⟩)), (4, v304), (7, .int .i64 s123.2), (8, v445), (9, v403), (10, .int .i64 s161.2.2), (12, .int .i64 (s177.1.length : Int))]) ⟨rfl, rfl, rfl, rfl, rfl, rfl, rfl, trivial⟩
                          refine nrm ?_
                          obtain rfl := Option.some.inj hm
                          exact ⟨v445, haq2452.pick' ⟨rfl, rfl, rfl, rfl, rfl, rfl, rfl, trivial⟩, St.sel hsq2452 5 [0, 1, 2, 3, 4] rfl rfl⟩
                      · rintro aq2453 wq2453 ⟨v443, haq2453, hsq2453⟩
                        refine wp_region_lit ?_
                        refine seq_op0 haq2453 hsq2453 (opT_move (v := v403) rfl rfl) rfl rfl ?_
                        rintro u aq2454 wq2454 hf haq2454 hsq2454
                        obtain rfl := Eq.symm hf
                        clear haq2453 hsq2453 aq2453 wq2453
                        refine seq_op0 haq2454 hsq2454 (opT_move (v := .int .i64 s179.2) rfl rfl) rfl rfl ?_
                        rintro u aq2455 wq2455 hf haq2455 hsq2455
                        obtain rfl := Eq.symm hf
                        clear haq2454 hsq2454 aq2454 wq2454
                        refine seq_op haq2455 hsq2455 rfl (opT_lit_cpy (E := 3) (R := rInt) (S := rInt) [(.int .i64 s179.2, [.int .i64 s179.2])] [s179.2] cpy_int (rd_all ⟨rfl, trivial⟩) Try.underlying34 tz3 (by decide) rfl (by decide) (by decide) rfl rfl rfl rfl (us_all ⟨⟨rfl, rfl⟩, trivial⟩)) (List.Perm.refl _) rfl ?_
                        rintro v446 aq2456 wq2456 - haq2456 (hsq2456 : St I w0 wq2456 [Ch.own (rSlice 3 rInt) [v446] ([s179.2]), Ch.own (rSlice 34 (rSlice 3 rInt)) [v443] s179.1, Ch.blk g1 [.int .i64 p0.1, va0, va1] 27, Ch.own (rSlice 3 rInt) [v304] s123.1, Ch.own (rSlice 3 rInt) [v403] s161.2.1, F])
                        clear haq2455 hsq2455 aq2455 wq2455
                        obtain ⟨z74, e341, hm⟩ := bind_some hm
                        refine seq_op haq2456 hsq2456 rfl (opT_app (E := 3) (R := rInt) (s := v403) (u := v446) e341 Try.underlying34 tz3 rfl (by decide) rfl (by decide) rfl rfl rfl) (perm_sel [4, 0, 1, 2, 3, 5] (m := 6) rfl rfl) rfl ?_
                        rintro v447 aq2457 wq2457 - haq2457 (hsq2457 : St I w0 wq2457 [Ch.own (rSlice 3 rInt) [v447] z74, Ch.own (rSlice 34 (rSlice 3 rInt)) [v443] s179.1, Ch.blk g1 [.int .i64 p0.1, va0, va1] 27, Ch.own (rSlice 3 rInt) [v304] s123.1, F])
                        clear haq2456 hsq2456 aq2456 wq2456
                        refine seq_op0 haq2457 hsq2457 (opT_assign (v := v447) rfl rfl) rfl rfl ?_
                        rintro u aq2458 wq2458 hf haq2458 hsq2458
                        obtain rfl := Eq.symm hf
                        clear haq2457 hsq2457 aq2457 wq2457
                        refine wpList_nil ?_
                        replace haq2458 := haq2458.pick' (L' := [(1, .pointer (some ⟨g1, 0, none⟩)), (4, v304), (7, .int .i64 s123.2), (8, v443), (9, v447), (10, .int .i64 s161.2.2)]) ⟨rfl, rfl, rfl, rfl, rfl, rfl, trivial⟩
                        refine nrmB ?_
                        refine nrm ?_
                        obtain rfl := Option.some.inj hm
                        exact ⟨v443, v447, haq2458.pick' ⟨rfl, rfl, rfl, rfl, rfl, rfl, trivial⟩, St.sel hsq2458 5 [1, 0, 2, 3, 4] rfl rfl⟩
                  · replace hm := ifTe hb234 hm
                    refine cnd_true (b := decide (x132 < 0)) haq2345 rfl rfl hb234 ?_
                    refine wp_seq ?_
                    refine wp_region_lit ?_
                    refine seq_op0 haq2345 hsq2345 (opT_move (v := v403) rfl rfl) rfl rfl ?_
                    rintro u aq2459 wq2459 hf haq2459 hsq2459
                    obtain rfl := Eq.symm hf
                    clear haq2345 hsq2345 aq2345 wq2345
                    refine seq_op haq2459 hsq2459 rfl (opT_lit_cpy (E := 3) (R := rInt) (S := rInt) [(.int .i64 (-1), [.int .i64 (-1)])] [-1] cpy_int (rd_all ⟨rfl, trivial⟩) Try.underlying34 tz3 (by decide) rfl (by decide) (by decide) rfl rfl rfl rfl (us_all ⟨⟨rfl, rfl⟩, trivial⟩)) (List.Perm.refl _) rfl ?_
                    rintro v448 aq2460 wq2460 - haq2460 (hsq2460 : St I w0 wq2460 [Ch.own (rSlice 3 rInt) [v448] ([-1]), Ch.own (rSlice 3 rInt) [v304] s123.1, Ch.blk g1 [.int .i64 p0.1, va0, va1] 27, Ch.own (rSlice 34 (rSlice 3 rInt)) [v402] s161.1, Ch.own (rSlice 3 rInt) [v403] s161.2.1, F])
                    clear haq2459 hsq2459 aq2459 wq2459
                    obtain ⟨z75, e342, hm⟩ := bind_some hm
                    refine seq_op haq2460 hsq2460 rfl (opT_app (E := 3) (R := rInt) (s := v403) (u := v448) e342 Try.underlying34 tz3 rfl (by decide) rfl (by decide) rfl rfl rfl) (perm_sel [4, 0, 1, 2, 3, 5] (m := 6) rfl rfl) rfl ?_
                    rintro v449 aq2461 wq2461 - haq2461 (hsq2461 : St I w0 wq2461 [Ch.own (rSlice 3 rInt) [v449] z75, Ch.own (rSlice 3 rInt) [v304] s123.1, Ch.blk g1 [.int .i64 p0.1, va0, va1] 27, Ch.own (rSlice 34 (rSlice 3 rInt)) [v402] s161.1, F])
                    clear haq2460 hsq2460 aq2460 wq2460
                    refine seq_op0 haq2461 hsq2461 (opT_assign (v := v449) rfl rfl) rfl rfl ?_
                    rintro u aq2462 wq2462 hf haq2462 hsq2462
                    obtain rfl := Eq.symm hf
                    clear haq2461 hsq2461 aq2461 wq2461
                    refine wpList_nil ?_
                    replace haq2462 := haq2462.pick' (L' := [(1, .pointer (some ⟨g1, 0, none⟩)), (4, v304), (7, .int .i64 s123.2), (8, v402), (9, v449), (10, .int .i64 s161.2.2)]) ⟨rfl, rfl, rfl, rfl, rfl, rfl, trivial⟩
                    refine nrm ?_
                    refine wp_exit ?_
                    refine thenX ?_
                    refine ex_in ?_
                    refine nrm ?_
                    obtain rfl := Option.some.inj hm
                    exact ⟨v402, v449, haq2462.pick' ⟨rfl, rfl, rfl, rfl, rfl, rfl, trivial⟩, St.sel hsq2462 5 [3, 0, 2, 1, 4] rfl rfl⟩
                · rintro aq2463 wq2463 ⟨v426, v427, haq2463, hsq2463⟩
                  refine wp_region_lit ?_
                  refine seq_op0 haq2463 hsq2463 (opT_move (v := .int .i64 s161.2.2) rfl rfl) rfl rfl ?_
                  rintro u aq2464 wq2464 hf haq2464 hsq2464
                  obtain rfl := Eq.symm hf
                  clear haq2463 hsq2463 aq2463 wq2463
                  refine seq_op0 haq2464 hsq2464 (opT_add (m := s161.2.2) (n := 1) rfl rfl rfl) rfl rfl ?_
                  rintro u aq2465 wq2465 hf haq2465 hsq2465
                  obtain rfl := Eq.symm hf
                  clear haq2464 hsq2464 aq2464 wq2464
                  refine seq_op0 haq2465 hsq2465 (opT_assign (v := .int .i64 (IntKind.i64.wrap (s161.2.2 + 1))) rfl rfl) rfl rfl ?_
                  rintro u aq2466 wq2466 hf haq2466 hsq2466
                  obtain rfl := Eq.symm hf
                  clear haq2465 hsq2465 aq2465 wq2465
                  refine wpList_nil ?_
                  replace haq2466 := haq2466.pick' (L' := [(1, .pointer (some ⟨g1, 0, none⟩)), (4, v304), (7, .int .i64 s123.2), (8, v426), (9, v427), (10, .int .i64 (IntKind.i64.wrap (s161.2.2 + 1)))]) ⟨rfl, rfl, rfl, rfl, rfl, rfl, trivial⟩
                  refine nrm ?_
                  exact ⟨_, (Option.some.inj hm).symm, ⟨v426, v427, haq2466.pick' ⟨rfl, rfl, rfl, rfl, rfl, rfl, trivial⟩, St.sel hsq2466 5 [0, 1, 2, 3, 4] rfl rfl⟩⟩
          · rintro aq2467 wq2467 ⟨s162, ho109, v401, haq2467, hsq2467⟩
            replace hm := loopOut ho109 hc99
            clear ho109 hc99 hl21
            refine nrm ?_
            refine wp_seq ?_
            refine wp_seq ?_
            refine wp_region_lit ?_
            refine seq_op0 haq2467 hsq2467 (opT_move (v := v401) rfl rfl) rfl rfl ?_
            rintro u aq2468 wq2468 hf haq2468 hsq2468
            obtain rfl := Eq.symm hf
            clear haq2467 hsq2467 aq2467 wq2467
            refine seq_op0 haq2468 hsq2468 (opT_move (v := v304) rfl rfl) rfl rfl ?_
            rintro u aq2469 wq2469 hf haq2469 hsq2469
            obtain rfl := Eq.symm hf
            clear haq2468 hsq2468 aq2468 wq2468
            obtain ⟨r238, e343, hm⟩ := bind_some hm
            refine seq_op haq2469 hsq2469 rfl (OpT.lend (ls := [Ch.own (rSlice 3 rInt) [v401] s162.2.1, Ch.own (rSlice 3 rInt) [v304] s123.1]) (gv := fun v => []) (fun _ => trivial) fun J hJ hl hb => opT_call (args := #[v401, v304]) (first := #[]) (captured := #[]) en104 rfl rfl rfl (c_s_l2Cmp s162.2.1 s123.1 _ e343 v401 v304 (hl _ _ _ (List.Mem.head _)) (hl _ _ _ (List.Mem.tail _ (List.Mem.head _))))) (perm_sel [0, 2, 1, 3] (m := 4) rfl rfl) rfl ?_
            rintro u aq2470 wq2470 hf haq2470 (hsq2470 : St I w0 wq2470 [Ch.own (rSlice 3 rInt) [v401] s162.2.1, Ch.own (rSlice 3 rInt) [v304] s123.1, Ch.blk g1 [.int .i64 p0.1, va0, va1] 27, F])
            obtain rfl := Eq.symm hf
            clear haq2469 hsq2469 aq2469 wq2469
            refine seq_op0 haq2470 hsq2470 (opT_cmp (k := .i64) (m := r238) (n := 0) (c := r238 == 0) rfl rfl rfl rfl rfl) rfl rfl ?_
            rintro u aq2471 wq2471 hf haq2471 hsq2471
            obtain rfl := Eq.symm hf
            clear haq2470 hsq2470 aq2470 wq2470
            refine wpList_nil ?_
            replace haq2471 := haq2471.pick' (L' := [(1, .pointer (some ⟨g1, 0, none⟩)), (4, v304), (7, .int .i64 s123.2), (9, v401), (95, .bool (r238 == 0))]) ⟨rfl, rfl, rfl, rfl, rfl, trivial⟩
            refine nrm ?_
            rcases two (r238 == 0) with hb246 | hb246
            · replace hm := ifFe hb246 hm
              refine cnd_false (b := r238 == 0) haq2471 rfl rfl hb246 ?_
              refine wp_skip ?_
              refine nrm ?_
              refine wp_region_lit ?_
              refine seq_op0 haq2471 hsq2471 (opT_move (v := v401) rfl rfl) rfl rfl ?_
              rintro u aq2472 wq2472 hf haq2472 hsq2472
              obtain rfl := Eq.symm hf
              clear haq2471 hsq2471 aq2471 wq2471
              refine seq_op0 haq2472 hsq2472 (opT_assign (v := v401) rfl rfl) rfl rfl ?_
              rintro u aq2473 wq2473 hf haq2473 hsq2473
              obtain rfl := Eq.symm hf
              clear haq2472 hsq2472 aq2472 wq2472
              refine wpList_nil ?_
              replace haq2473 := haq2473.pick' (L' := [(1, .pointer (some ⟨g1, 0, none⟩)), (4, v401), (7, .int .i64 s123.2)]) ⟨rfl, rfl, rfl, trivial⟩
              refine nrmB ?_
              refine nrm ?_
              refine wp_region_lit ?_
              refine seq_op0 haq2473 hsq2473 (opT_move (v := .int .i64 s123.2) rfl rfl) rfl rfl ?_
              rintro u aq2474 wq2474 hf haq2474 hsq2474
              obtain rfl := Eq.symm hf
              clear haq2473 hsq2473 aq2473 wq2473
              refine seq_op0 haq2474 hsq2474 (opT_add (m := s123.2) (n := 1) rfl rfl rfl) rfl rfl ?_
              rintro u aq2475 wq2475 hf haq2475 hsq2475
              obtain rfl := Eq.symm hf
              clear haq2474 hsq2474 aq2474 wq2474
              refine seq_op0 haq2475 hsq2475 (opT_assign (v := .int .i64 (IntKind.i64.wrap (s123.2 + 1))) rfl rfl) rfl rfl ?_
              rintro u aq2476 wq2476 hf haq2476 hsq2476
              obtain rfl := Eq.symm hf
              clear haq2475 hsq2475 aq2475 wq2475
              refine wpList_nil ?_
              replace haq2476 := haq2476.pick' (L' := [(1, .pointer (some ⟨g1, 0, none⟩)), (4, v401), (7, .int .i64 (IntKind.i64.wrap (s123.2 + 1)))]) ⟨rfl, rfl, rfl, trivial⟩
              refine nrm ?_
              exact ⟨_, (Option.some.inj hm).symm, ⟨v401, haq2476.pick' ⟨rfl, rfl, rfl, trivial⟩, St.sel hsq2476 4 [0, 2, 3] rfl rfl⟩⟩
            · replace hm := ifTe hb246 hm
              refine cnd_true (b := r238 == 0) haq2471 rfl rfl hb246 ?_
              refine wp_seq ?_
              refine wp_region_lit ?_
              refine seq_op0 haq2471 hsq2471 (opT_move (v := v304) rfl rfl) rfl rfl ?_
              rintro u aq2477 wq2477 hf haq2477 hsq2477
              obtain rfl := Eq.symm hf
              clear haq2471 hsq2471 aq2471 wq2471
              refine seq_op0 haq2477 hsq2477 (opT_assign (v := v304) rfl rfl) rfl rfl ?_
              rintro u aq2478 wq2478 hf haq2478 hsq2478
              obtain rfl := Eq.symm hf
              clear haq2477 hsq2477 aq2477 wq2477
              refine wpList_nil ?_
              replace haq2478 := haq2478.pick' (L' := [(2, v304)]) ⟨rfl, trivial⟩
              refine nrm ?_
              refine wp_ret ?_
              refine thenR ?_
              refine blkR ?_
              refine thenR ?_
              refine thenR ?_
              refine blkR ?_
              refine thenR ?_
              refine thenR ?_
              replace hm := loopRet hm hf16 hc76
              obtain rfl := Option.some.inj hm
              exact ret_1 haq2478 rfl (res_tmp haq2478 rfl) ⟨_, rfl, trivial, _, Hp.le.rfl, St.sel (hsq2478) 4 [1, 3] rfl rfl⟩
    · rintro aq2479 wq2479 ⟨s124, ho110, v303, haq2479, hsq2479⟩
      replace hm := loopOut ho110 hc76
      clear ho110 hc76 hl16
      refine nrm ?_
      refine wp_seq ?_
      refine wp_region_lit ?_
      refine seq_op0 haq2479 hsq2479 (opT_move (v := v303) rfl rfl) rfl rfl ?_
      rintro u aq2480 wq2480 hf haq2480 hsq2480
      obtain rfl := Eq.symm hf
      clear haq2479 hsq2479 aq2479 wq2479
      refine seq_op0 haq2480 hsq2480 (opT_assign (v := v303) rfl rfl) rfl rfl ?_
      rintro u aq2481 wq2481 hf haq2481 hsq2481
      obtain rfl := Eq.symm hf
      clear haq2480 hsq2480 aq2480 wq2480
      refine wpList_nil ?_
      replace haq2481 := haq2481.pick' (L' := [(2, v303)]) ⟨rfl, trivial⟩
      refine nrm ?_
      refine wp_ret ?_
      obtain rfl := Option.some.inj hm
      exact ret_1 haq2481 rfl (res_tmp haq2481 rfl) ⟨_, rfl, trivial, _, Hp.le.rfl, St.sel (hsq2481) 2 [0, 1] rfl rfl⟩
set_option maxHeartbeats 8000000 in
theorem c_w_eqIntSS (p0a : List (List Int)) (p1b : List (List Int)) (r : Bool) (hm : m_w_eqIntSS p0a p1b = some r) {I : Hp} {w0 : World} (va0 : Value) (va1 : Value) (ra0 : (rSlice 34 (rSlice 3 rInt)).rd I [va0] p0a) (ra1 : (rSlice 34 (rSlice 3 rInt)).rd I [va1] p1b) : Con Try.prog 54 #[va0, va1] I w0 [] (fun v => v = .bool r) (fun v => []) := by
  refine con_of_wp (n := 27) [(0, va0), (1, va1)] Try.func54 rfl rfl (Nat.le_of_ble_eq_true rfl) (args_all ⟨rfl, rfl, trivial⟩) (fun F w a ha hs => ?_) (fun v => trivial)
  unfold m_w_eqIntSS at hm
  refine wp_seq ?_
  refine wp_region_lit ?_
  refine seq_op0 ha hs (opT_assign (v := .bool false) rfl rfl) rfl rfl ?_
  rintro u aq1 wq1 hf haq1 hsq1
  obtain rfl := Eq.symm hf
  clear ha hs a w
  refine wpList_nil ?_
  replace haq1 := haq1.pick' (L' := [(0, va0), (1, va1)]) ⟨rfl, rfl, trivial⟩
  refine nrm ?_
  refine wp_seq ?_
  refine wp_seq ?_
  refine wp_region_lit ?_
  refine seq_op0 haq1 hsq1 (opT_move (v := va0) rfl rfl) rfl rfl ?_
  rintro u aq2 wq2 hf haq2 hsq2
  obtain rfl := Eq.symm hf
  clear haq1 hsq1 aq1 wq1
  refine seq_op0 haq2 hsq2 (opT_len_hd (v := va0) (n := p0a.length) (Hd.of_rd ra0) Try.underlying23 rfl rfl) rfl rfl ?_
  rintro u aq3 wq3 hf haq3 hsq3
  obtain rfl := Eq.symm hf
  clear haq2 hsq2 aq2 wq2
  refine seq_op0 haq3 hsq3 (opT_move (v := va1) rfl rfl) rfl rfl ?_
  rintro u aq4 wq4 hf haq4 hsq4
  obtain rfl := Eq.symm hf
  clear haq3 hsq3 aq3 wq3
  refine seq_op0 haq4 hsq4 (opT_len_hd (v := va1) (n := p1b.length) (Hd.of_rd ra1) Try.underlying23 rfl rfl) rfl rfl ?_
  rintro u aq5 wq5 hf haq5 hsq5
  obtain rfl := Eq.symm hf
  clear haq4 hsq4 aq4 wq4
  refine seq_op0 haq5 hsq5 (opT_cmp (k := .i64) (m := (p0a.length : Int)) (n := (p1b.length : Int)) (c := (p0a.length : Int) != (p1b.length : Int)) rfl rfl rfl rfl rfl) rfl rfl ?_
  rintro u aq6 wq6 hf haq6 hsq6
  obtain rfl := Eq.symm hf
  clear haq5 hsq5 aq5 wq5
  refine wpList_nil ?_
  replace haq6 := haq6.pick' (L' := [(0, va0), (1, va1), (10, .bool ((p0a.length : Int) != (p1b.length : Int)))]) ⟨rfl, rfl, rfl, trivial⟩
  refine nrm ?_
  rcases two ((p0a.length : Int) != (p1b.length : Int)) with hb1 | hb1
  · replace hm := ifFe hb1 hm
    refine cnd_false (b := (p0a.length : Int) != (p1b.length : Int)) haq6 rfl rfl hb1 ?_
    refine wp_skip ?_
    refine nrm ?_
    refine wp_seq ?_
    refine wp_seq ?_
    refine wp_region_lit ?_
    refine seq_op0 haq6 hsq6 (opT_assign (v := .int .i64 0) rfl rfl) rfl rfl ?_
    rintro u aq7 wq7 hf haq7 hsq7
    obtain rfl := Eq.symm hf
    clear haq6 hsq6 aq6 wq6
    refine wpList_nil ?_
    replace haq7 := haq7.pick' (L' := [(0, va0), (1, va1), (5, .int .i64 0)]) ⟨rfl, rfl, rfl, trivial⟩
    refine nrm ?_
    obtain ⟨o1, hl1, hc1⟩ := bindL_some hm
    refine wp_cut (fun a w => ∃ s4 : Int, o1 = .brk s4 ∧ Agr 27 a [] ∧ St I w0 w [F]) ?_ ?_
    · refine wp_block (wp_loopM (R := Bool) (S := Int) (fun s3 a w => Agr 27 a [(0, va0), (1, va1), (5, .int .i64 s3)] ∧ St I w0 w [F]) hl1 ?_ ?_)
      · exact ⟨haq7.pick' ⟨rfl, rfl, rfl, trivial⟩, St.sel hsq7 1 [0] rfl rfl⟩
      · rintro s3 o2 hm hf1 aq24 wq24 ⟨haq24, hsq24⟩
        unfold m_w_eqIntSS_l0 at hm
        refine wp_seq ?_
        refine wp_seq ?_
        refine wp_region_lit ?_
        refine seq_op0 haq24 hsq24 (opT_move (v := .int .i64 s3) rfl rfl) rfl rfl ?_
        rintro u aq25 wq25 hf haq25 hsq25
        obtain rfl := Eq.symm hf
        clear haq24 hsq24 aq24 wq24
        refine seq_op0 haq25 hsq25 (opT_move (v := va0) rfl rfl) rfl rfl ?_
        rintro u aq26 wq26 hf haq26 hsq26
        obtain rfl := Eq.symm hf
        clear haq25 hsq25 aq25 wq25
        refine seq_op0 haq26 hsq26 (opT_len_hd (v := va0) (n := p0a.length) (Hd.of_rd ra0) Try.underlying23 rfl rfl) rfl rfl ?_
        rintro u aq27 wq27 hf haq27 hsq27
        obtain rfl := Eq.symm hf
        clear haq26 hsq26 aq26 wq26
        refine seq_op0 haq27 hsq27 (opT_cmp (k := .i64) (m := s3) (n := (p0a.length : Int)) (c := decide (s3 < (p0a.length : Int))) rfl rfl rfl rfl rfl) rfl rfl ?_
        rintro u aq28 wq28 hf haq28 hsq28
        obtain rfl := Eq.symm hf
        clear haq27 hsq27 aq27 wq27
        refine wpList_nil ?_
        replace haq28 := haq28.pick' (L' := [(0, va0), (1, va1), (5, .int .i64 s3), (14, .bool (decide (s3 < (p0a.length : Int))))]) ⟨rfl, rfl, rfl, rfl, trivial⟩
        refine nrm ?_
        rcases two (decide (s3 < (p0a.length : Int))) with hb6 | hb6
        · replace hm := ifFe hb6 hm
          refine cnd_false (b := decide (s3 < (p0a.length : Int))) haq28 rfl rfl hb6 ?_
          refine wp_exit ?_
          refine thenX ?_
          refine thenX ?_
          refine ex_in ?_
          refine nrm ?_
          exact ⟨_, loopBrk hm hf1, ⟨haq28.pick' trivial, St.sel hsq28 1 [0] rfl rfl⟩⟩
        · replace hm := ifTe hb6 hm
          refine cnd_true (b := decide (s3 < (p0a.length : Int))) haq28 rfl rfl hb6 ?_
          refine wp_skip ?_
          refine nrm ?_
          refine wp_seq ?_
          refine wp_block ?_
          refine wp_seq ?_
          obtain ⟨x5, e7, hm⟩ := bind_some hm
          obtain ⟨x6, e8, hm⟩ := bind_some hm
          obtain ⟨r9, e9, hm⟩ := bind_some hm
          refine wp_draw (L := [(0, va0), (1, va1), (5, .int .i64 s3), (14, .bool (decide (s3 < (p0a.length : Int))))]) (C := [F]) { ops := [⟨[], [], [], [0], fun | [xo0] => xo0 = va0 | _ => True, [(0, none)]⟩, ⟨[], [], [], [1], fun | [xo1] => xo1 = .int .i64 s3 | _ => True, [(5, none)]⟩, ⟨[], [], [], [2], fun | [xo2] => xo2 = pt va0 (s3.toNat * 1) | _ => True, [(17, some 0), (18, some 1)]⟩, ⟨[], [], [], [3], fun | [xo3] => (rSlice 3 rInt).rd I [xo3] x5 | _ => True, [(19, some 2)]⟩, ⟨[], [], [], [4], fun | [xo4] => xo4 = va1 | _ => True, [(1, none)]⟩, ⟨[], [], [], [5], fun | [xo5] => xo5 = .int .i64 s3 | _ => True, [(5, none)]⟩, ⟨[], [], [], [6], fun | [xo6] => xo6 = pt va1 (s3.toNat * 1) | _ => True, [(21, some 4), (22, some 5)]⟩, ⟨[], [], [], [7], fun | [xo7] => (rSlice 3 rInt).rd I [xo7] x6 | _ => True, [(23, some 6)]⟩, ⟨[], [], [], [8], fun | [xo8] => xo8 = .bool r9 | _ => True, [(20, some 3), (24, some 7)]⟩, ⟨[], [], [], [9], fun | [xo9] => xo9 = .bool (!r9) | _ => True, [(25, some 8)]⟩], res := [], base := [], pre := [[], [], [0, 1], [0, 1, 2], [], [], [4, 5], [4, 5, 6], [0, 1, 2, 3, 4, 5, 6, 7], [0, 1, 2, 3, 4, 5, 6, 7, 8]], fin := [(0, none), (1, none), (5, none), (26, some 9)], left := [] } (by kernel_rfl) haq28 hsq28 (perm_sel [0] (m := 1) rfl rfl) (by kernel_rfl) (by kernel_rfl) ?_ ?_
          · exact ⟨Plan.goal_run fun vs hf => ⟨wants_none rfl, OpT.conv (OpT.evs (ev' := evL [(0, va0)]) (opT_move (v := va0) rfl rfl) rfl [.tmp 0] rfl ⟨rfl, trivial⟩) rfl (fun _ h => Eq.trans h rfl) (fun _ => rfl)⟩, Plan.goal_run fun vs hf => ⟨wants_none rfl, OpT.conv (OpT.evs (ev' := evL [(5, .int .i64 s3)]) (opT_move (v := .int .i64 s3) rfl rfl) rfl [.tmp 5] rfl ⟨rfl, trivial⟩) rfl (fun _ h => Eq.trans h rfl) (fun _ => rfl)⟩, Plan.goal_run fun vs hf => ⟨wants_none rfl, OpT.conv (OpT.evs (ev' := evL [(17, va0), (18, .int .i64 s3)]) (opT_index_hd (xs := p0a) (i := s3) (n := 1) (Hd.of_rd ra0) Try.underlying23 ti34 rfl rfl rfl (getI_in e7)) rfl [.tmp 17, .tmp 18] rfl ⟨(hf 0 (mb rfl)), (hf 1 (mb rfl)), trivial⟩) rfl (fun _ h => Eq.trans h rfl) (fun _ => rfl)⟩, Plan.goal_run fun vs hf => ⟨wants_none rfl, OpT.conv (OpT.evs (ev' := evL [(19, pt va0 (s3.toNat * 1))]) (opT_load_el (S := rSlice 3 rInt) (xs := p0a) (a := x5) (i := s3) (k := 1) (off := 0) (f := fun (x : List Int) => x) ra0 e7 Fld.self ti34 rfl rfl rfl rfl rfl) rfl [.tmp 19] rfl ⟨(hf 2 (mb rfl)), trivial⟩) rfl (fun _ h => lds_sl h) (fun _ => rfl)⟩, Plan.goal_run fun vs hf => ⟨wants_none rfl, OpT.conv (OpT.evs (ev' := evL [(1, va1)]) (opT_move (v := va1) rfl rfl) rfl [.tmp 1] rfl ⟨rfl, trivial⟩) rfl (fun _ h => Eq.trans h rfl) (fun _ => rfl)⟩, Plan.goal_run fun vs hf => ⟨wants_none rfl, OpT.conv (OpT.evs (ev' := evL [(5, .int .i64 s3)]) (opT_move (v := .int .i64 s3) rfl rfl) rfl [.tmp 5] rfl ⟨rfl, trivial⟩) rfl (fun _ h => Eq.trans h rfl) (fun _ => rfl)⟩, Plan.goal_run fun vs hf => ⟨wants_none rfl, OpT.conv (OpT.evs (ev' := evL [(21, va1), (22, .int .i64 s3)]) (opT_index_hd (xs := p1b) (i := s3) (n := 1) (Hd.of_rd ra1) Try.underlying23 ti34 rfl rfl rfl (getI_in e8)) rfl [.tmp 21, .tmp 22] rfl ⟨(hf 4 (mb rfl)), (hf 5 (mb rfl)), trivial⟩) rfl (fun _ h => Eq.trans h rfl) (fun _ => rfl)⟩, Plan.goal_run fun vs hf => ⟨wants_none rfl, OpT.conv (OpT.evs (ev' := evL [(23, pt va1 (s3.toNat * 1))]) (opT_load_el (S := rSlice 3 rInt) (xs := p1b) (a := x6) (i := s3) (k := 1) (off := 0) (f := fun (x : List Int) => x) ra1 e8 Fld.self ti34 rfl rfl rfl rfl rfl) rfl [.tmp 23] rfl ⟨(hf 6 (mb rfl)), trivial⟩) rfl (fun _ h => lds_sl h) (fun _ => rfl)⟩, Plan.goal_run fun vs hf => ⟨wants_none rfl, OpT.conv (OpT.evs (ev' := evL [(20, (vs 3)), (24, (vs 7))]) (opT_call (args := #[(vs 3), (vs 7)]) (first := #[]) (captured := #[]) en69 rfl rfl rfl (c_w_eqIntS x5 x6 _ e9 (vs 3) (vs 7) (show (rSlice 3 rInt).rd I [(vs 3)] x5 from (hf 3 (mb rfl))) (show (rSlice 3 rInt).rd I [(vs 7)] x6 from (hf 7 (mb rfl))))) rfl [.func 69, .tmp 20, .tmp 24] rfl ⟨rfl, rfl, rfl, trivial⟩) rfl (fun _ h => h) (fun _ => rfl)⟩, Plan.goal_run fun vs hf => ⟨wants_none rfl, OpT.conv (OpT.evs (ev' := evL [(25, .bool r9)]) (opT_not (b := r9) rfl rfl) rfl [.tmp 25] rfl ⟨(hf 8 (mb rfl)), trivial⟩) rfl (fun _ h => Eq.trans h rfl) (fun _ => rfl)⟩, trivial⟩
          intro vs aq29 wq29 hf haq29 hsq29
          clear haq28 hsq28
          replace haq29 := haq29.pick' (L' := [(0, va0), (1, va1), (5, .int .i64 s3), (26, .bool (!r9))]) ⟨rfl, rfl, rfl, (congrArg some (show _ = _ from (hf 9 (Nat.le_of_ble_eq_true rfl)))), trivial⟩
          replace hsq29 : St I w0 wq29 [F] := hsq29
          clear hf vs
          refine nrm ?_
          rcases two (r9) with hb7 | hb7
          · replace hm := ifFe hb7 hm
            refine cnd_true (b := !r9) haq29 rfl rfl (notT hb7) ?_
            refine wp_seq ?_
            refine wp_region_lit ?_
            refine seq_op0 haq29 hsq29 (opT_assign (v := .bool false) rfl rfl) rfl rfl ?_
            rintro u aq30 wq30 hf haq30 hsq30
            obtain rfl := Eq.symm hf
            clear haq29 hsq29 aq29 wq29
            refine wpList_nil ?_
            replace haq30 := haq30.pick' (L' := [(4, .bool false)]) ⟨rfl, trivial⟩
            refine nrm ?_
            refine wp_ret ?_
            refine blkR ?_
            refine thenR ?_
            refine thenR ?_
            refine blkR ?_
            refine thenR ?_
            refine thenR ?_
            replace hm := loopRet hm hf1 hc1
            obtain rfl := Option.some.inj hm
            exact ret_1 haq30 rfl (res_tmp haq30 rfl) ⟨_, rfl, rfl, _, Hp.le.rfl, St.sel (hsq30) 1 [0] rfl rfl⟩
          · replace hm := ifTe hb7 hm
            refine cnd_false (b := !r9) haq29 rfl rfl (notF hb7) ?_
            refine wp_skip ?_
            refine nrmB ?_
            refine nrm ?_
            refine wp_region_lit ?_
            refine seq_op0 haq29 hsq29 (opT_move (v := .int .i64 s3) rfl rfl) rfl rfl ?_
            rintro u aq31 wq31 hf haq31 hsq31
            obtain rfl := Eq.symm hf
            clear haq29 hsq29 aq29 wq29
            refine seq_op0 haq31 hsq31 (opT_add (m := s3) (n := 1) rfl rfl rfl) rfl rfl ?_
            rintro u aq32 wq32 hf haq32 hsq32
            obtain rfl := Eq.symm hf
            clear haq31 hsq31 aq31 wq31
            refine seq_op0 haq32 hsq32 (opT_assign (v := .int .i64 (IntKind.i64.wrap (s3 + 1))) rfl rfl) rfl rfl ?_
            rintro u aq33 wq33 hf haq33 hsq33
            obtain rfl := Eq.symm hf
            clear haq32 hsq32 aq32 wq32
            refine wpList_nil ?_
            replace haq33 := haq33.pick' (L' := [(0, va0), (1, va1), (5, .int .i64 (IntKind.i64.wrap (s3 + 1)))]) ⟨rfl, rfl, rfl, trivial⟩
            refine nrm ?_
            exact ⟨_, (Option.some.inj hm).symm, ⟨haq33.pick' ⟨rfl, rfl, rfl, trivial⟩, St.sel hsq33 1 [0] rfl rfl⟩⟩
    · rintro aq34 wq34 ⟨s4, ho1, haq34, hsq34⟩
      replace hm := loopOut ho1 hc1
      clear ho1 hc1 hl1
      refine nrm ?_
      refine wp_seq ?_
      refine wp_region_lit ?_
      refine seq_op0 haq34 hsq34 (opT_assign (v := .bool true) rfl rfl) rfl rfl ?_
      rintro u aq35 wq35 hf haq35 hsq35
      obtain rfl := Eq.symm hf
      clear haq34 hsq34 aq34 wq34
      refine wpList_nil ?_
      replace haq35 := haq35.pick' (L' := [(4, .bool true)]) ⟨rfl, trivial⟩
      refine nrm ?_
      refine wp_ret ?_
      obtain rfl := Option.some.inj hm
      exact ret_1 haq35 rfl (res_tmp haq35 rfl) ⟨_, rfl, rfl, _, Hp.le.rfl, St.sel (hsq35) 1 [0] rfl rfl⟩
  · replace hm := ifTe hb1 hm
    refine cnd_true (b := (p0a.length : Int) != (p1b.length : Int)) haq6 rfl rfl hb1 ?_
    refine wp_seq ?_
    refine wp_region_lit ?_
    refine seq_op0 haq6 hsq6 (opT_assign (v := .bool false) rfl rfl) rfl rfl ?_
    rintro u aq36 wq36 hf haq36 hsq36
    obtain rfl := Eq.symm hf
    clear haq6 hsq6 aq6 wq6
    refine wpList_nil ?_
    replace haq36 := haq36.pick' (L' := [(4, .bool false)]) ⟨rfl, trivial⟩
    refine nrm ?_
    refine wp_ret ?_
    refine thenR ?_
    obtain rfl := Option.some.inj hm
    exact ret_1 haq36 rfl (res_tmp haq36 rfl) ⟨_, rfl, rfl, _, Hp.le.rfl, St.sel (hsq36) 1 [0] rfl rfl⟩
set_option maxHeartbeats 8000000 in
theorem c_i_EqualAutomata_1 (p0x : List Int) (p1y : List Int) (r : Bool) (hm : m_i_EqualAutomata_1 p0x p1y = some r) {I : Hp} {w0 : World} (va0 : Value) (va1 : Value) (ra0 : (rSlice 3 rInt).rd I [va0] p0x) (ra1 : (rSlice 3 rInt).rd I [va1] p1y) : Con Try.prog 108 #[va0, va1] I w0 [] (fun v => v = .bool r) (fun v => []) := by
  refine con_of_wp (n := 8) [(0, va0), (1, va1)] Try.func108 rfl rfl (Nat.le_of_ble_eq_true rfl) (args_all ⟨rfl, rfl, trivial⟩) (fun F w a ha hs => ?_) (fun v => trivial)
  unfold m_i_EqualAutomata_1 at hm
  refine wp_seq ?_
  refine wp_region_lit ?_
  refine seq_op0 ha hs (opT_assign (v := .bool false) rfl rfl) rfl rfl ?_
  rintro u aq1 wq1 hf haq1 hsq1
  obtain rfl := Eq.symm hf
  clear ha hs a w
  refine wpList_nil ?_
  replace haq1 := haq1.pick' (L' := [(0, va0), (1, va1)]) ⟨rfl, rfl, trivial⟩
  refine nrm ?_
  refine wp_seq ?_
  refine wp_region_lit ?_
  refine seq_op0 haq1 hsq1 (opT_move (v := va0) rfl rfl) rfl rfl ?_
  rintro u aq2 wq2 hf haq2 hsq2
  obtain rfl := Eq.symm hf
  clear haq1 hsq1 aq1 wq1
  refine seq_op0 haq2 hsq2 (opT_move (v := va1) rfl rfl) rfl rfl ?_
  rintro u aq3 wq3 hf haq3 hsq3
  obtain rfl := Eq.symm hf
  clear haq2 hsq2 aq2 wq2
  obtain ⟨r1, e1, hm⟩ := bind_some hm
  refine seq_op0 haq3 hsq3 (opT_call (args := #[va0, va1]) (first := #[]) (captured := #[]) en109 rfl rfl rfl (c_g_slices_Equal_S_int_int p0x p1y _ e1 va0 va1 ra0 ra1)) rfl rfl ?_
  rintro u aq4 wq4 hf haq4 hsq4
  obtain rfl := Eq.symm hf
  clear haq3 hsq3 aq3 wq3
  refine seq_op0 haq4 hsq4 (opT_assign (v := .bool r1) rfl rfl) rfl rfl ?_
  rintro u aq5 wq5 hf haq5 hsq5
  obtain rfl := Eq.symm hf
  clear haq4 hsq4 aq4 wq4
  refine wpList_nil ?_
  replace haq5 := haq5.pick' (L' := [(4, .bool r1)]) ⟨rfl, trivial⟩
  refine nrm ?_
  refine wp_ret ?_
  obtain rfl := Option.some.inj hm
  exact ret_1 haq5 rfl (res_tmp haq5 rfl) ⟨_, rfl, rfl, _, Hp.le.rfl, St.sel (hsq5) 1 [0] rfl rfl⟩
end Go.Proofs.Ytcihbmdppgpmjaa.D
