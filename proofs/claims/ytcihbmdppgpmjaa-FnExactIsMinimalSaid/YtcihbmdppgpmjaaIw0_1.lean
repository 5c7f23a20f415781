/- Printed by dec.py: models of functions and the walks that show them. -/
import Derived.Test.YtcihbmdppgpmjaaIm
set_option linter.unusedVariables false
set_option linter.unusedSimpArgs false
set_option linter.unnecessarySimpa false
set_option maxRecDepth 100000
namespace Go.Proofs.Ytcihbmdppgpmjaa.D
open Go.RowKit
set_option maxHeartbeats 8000000 in
theorem c_s_l11Live (p0a : Int × (List Bool) × (List (List Int))) (r : List Bool) (hm : m_s_l11Live p0a = some r) {I : Hp} {w0 : World} (va0 : Value) (va1 : Value) (ra0 : (rSlice 4 rBool).rd I [va0] p0a.2.1) (ra1 : (rSlice 34 (rSlice 3 rInt)).rd I [va1] p0a.2.2) : Con Try.prog 48 #[.agg #[.int .i64 p0a.1, va0, va1]] I w0 [] (fun v => True) (fun v => [Ch.own (rSlice 4 rBool) [v] r]) := by
  refine con_of_wp (n := 55) [(0, .agg #[.int .i64 p0a.1, va0, va1])] Try.func48 rfl rfl (Nat.le_of_ble_eq_true rfl) (args_all ⟨rfl, trivial⟩) (fun F w a ha hs => ?_) (fun v => ⟨dp_own (dp_slice dp_bool), trivial⟩)
  unfold m_s_l11Live at hm
  refine wp_seq ?_
  refine wp_region_lit ?_
  refine seq_op ha hs rfl (opT_box (u := .agg #[.int .i64 p0a.1, va0, va1]) (l := [.int .i64 p0a.1, va0, va1]) rfl rfl rfl) (List.Perm.refl _) rfl ?_
  rintro _ aq1 wq1 ⟨g1, rfl⟩ haq1 (hsq1 : St I w0 wq1 [Ch.blk g1 [.int .i64 p0a.1, va0, va1] 27, F])
  clear ha hs a w
  refine seq_op0 haq1 hsq1 (opT_assign (v := .slice none 0 0) rfl rfl) rfl rfl ?_
  rintro u aq2 wq2 hf haq2 hsq2
  obtain rfl := Eq.symm hf
  clear haq1 hsq1 aq1 wq1
  refine wpList_nil ?_
  replace haq2 := haq2.pick' (L' := [(1, .pointer (some ⟨g1, 0, none⟩))]) ⟨rfl, trivial⟩
  refine nrm ?_
  refine wp_seq ?_
  refine wp_region_lit ?_
  refine seq_op haq2 hsq2 rfl (opT_lit0 (E := 4) (R := rBool) Try.underlying22 ti4 rfl) (List.Perm.refl _) rfl ?_
  rintro v1 aq3 wq3 - haq3 (hsq3 : St I w0 wq3 [Ch.own (rSlice 4 rBool) [v1] ([] : List Bool), Ch.blk g1 [.int .i64 p0a.1, va0, va1] 27, F])
  clear haq2 hsq2 aq2 wq2
  refine seq_op0 haq3 hsq3 (opT_field_addr (g := g1) (b := 0) tf27_1 rfl rfl) rfl rfl ?_
  rintro u aq4 wq4 hf haq4 hsq4
  obtain rfl := Eq.symm hf
  clear haq3 hsq3 aq3 wq3
  refine seq_op haq4 hsq4 rfl (opT_load_blk (g := g1) (off := 1) (E := 27) (l := [.int .i64 p0a.1, va0, va1]) (d := [va0]) (u := va0) ti22 rfl rfl rfl rfl rfl rfl) (perm_front (i := 1) rfl) rfl ?_
  rintro u aq5 wq5 hf haq5 (hsq5 : St I w0 wq5 [Ch.blk g1 [.int .i64 p0a.1, va0, va1] 27, Ch.own (rSlice 4 rBool) [v1] ([] : List Bool), F])
  obtain rfl := Eq.symm hf
  clear haq4 hsq4 aq4 wq4
  obtain ⟨z1, e1, hm⟩ := bind_some hm
  refine seq_op haq5 hsq5 rfl (opT_app_fro (E := 4) (R := rBool) (S := rBool) (s := v1) (u := va0) e1 cpy_bool rfl ra0 Try.underlying22 tz4 rfl (by decide) rfl (by decide) rfl rfl rfl) (perm_front (i := 1) rfl) rfl ?_
  rintro v2 aq6 wq6 - haq6 (hsq6 : St I w0 wq6 [Ch.own (rSlice 4 rBool) [v2] z1, Ch.blk g1 [.int .i64 p0a.1, va0, va1] 27, F])
  clear haq5 hsq5 aq5 wq5
  refine seq_op0 haq6 hsq6 (opT_assign (v := v2) rfl rfl) rfl rfl ?_
  rintro u aq7 wq7 hf haq7 hsq7
  obtain rfl := Eq.symm hf
  clear haq6 hsq6 aq6 wq6
  refine wpList_nil ?_
  replace haq7 := haq7.pick' (L' := [(1, .pointer (some ⟨g1, 0, none⟩)), (3, v2)]) ⟨rfl, rfl, trivial⟩
  refine nrm ?_
  refine wp_seq ?_
  refine wp_seq ?_
  refine wp_region_lit ?_
  refine seq_op0 haq7 hsq7 (opT_assign (v := .int .i64 0) rfl rfl) rfl rfl ?_
  rintro u aq8 wq8 hf haq8 hsq8
  obtain rfl := Eq.symm hf
  clear haq7 hsq7 aq7 wq7
  refine wpList_nil ?_
  replace haq8 := haq8.pick' (L' := [(1, .pointer (some ⟨g1, 0, none⟩)), (3, v2), (4, .int .i64 0)]) ⟨rfl, rfl, rfl, trivial⟩
  refine nrm ?_
  obtain ⟨o35, hl9, hc27⟩ := bindL_some hm
  refine wp_cut (fun a w => ∃ s54 : (List Bool) × Int, o35 = .brk s54 ∧ Agr 55 a [(3, v2)] ∧ St I w0 w [Ch.own (rSlice 4 rBool) [v2] s54.1, F]) ?_ ?_
  · refine wp_block (wp_loopM (R := List Bool) (S := (List Bool) × Int) (fun s53 a w => Agr 55 a [(1, .pointer (some ⟨g1, 0, none⟩)), (3, v2), (4, .int .i64 s53.2)] ∧ St I w0 w [Ch.own (rSlice 4 rBool) [v2] s53.1, Ch.blk g1 [.int .i64 p0a.1, va0, va1] 27, F]) hl9 ?_ ?_)
    · exact ⟨haq8.pick' ⟨rfl, rfl, rfl, trivial⟩, St.sel hsq8 3 [0, 1, 2] rfl rfl⟩
    · rintro s53 o36 hm hf9 aq1573 wq1573 ⟨haq1573, hsq1573⟩
      unfold m_s_l11Live_l0 at hm
      refine wp_seq ?_
      refine wp_seq ?_
      refine wp_region_lit ?_
      refine seq_op0 haq1573 hsq1573 (opT_move (v := .int .i64 s53.2) rfl rfl) rfl rfl ?_
      rintro u aq1574 wq1574 hf haq1574 hsq1574
      obtain rfl := Eq.symm hf
      clear haq1573 hsq1573 aq1573 wq1573
      refine seq_op0 haq1574 hsq1574 (opT_field_addr (g := g1) (b := 0) tf27_1 rfl rfl) rfl rfl ?_
      rintro u aq1575 wq1575 hf haq1575 hsq1575
      obtain rfl := Eq.symm hf
      clear haq1574 hsq1574 aq1574 wq1574
      refine seq_op haq1575 hsq1575 rfl (opT_load_blk (g := g1) (off := 1) (E := 27) (l := [.int .i64 p0a.1, va0, va1]) (d := [va0]) (u := va0) ti22 rfl rfl rfl rfl rfl rfl) (perm_front (i := 1) rfl) rfl ?_
      rintro u aq1576 wq1576 hf haq1576 (hsq1576 : St I w0 wq1576 [Ch.blk g1 [.int .i64 p0a.1, va0, va1] 27, Ch.own (rSlice 4 rBool) [v2] s53.1, F])
      obtain rfl := Eq.symm hf
      clear haq1575 hsq1575 aq1575 wq1575
      refine seq_op0 haq1576 hsq1576 (opT_len_hd (v := va0) (n := p0a.2.1.length) (Hd.of_rd ra0) Try.underlying22 rfl rfl) rfl rfl ?_
      rintro u aq1577 wq1577 hf haq1577 hsq1577
      obtain rfl := Eq.symm hf
      clear haq1576 hsq1576 aq1576 wq1576
      refine seq_op0 haq1577 hsq1577 (opT_cmp (k := .i64) (m := s53.2) (n := (p0a.2.1.length : Int)) (c := decide (s53.2 < (p0a.2.1.length : Int))) rfl rfl rfl rfl rfl) rfl rfl ?_
      rintro u aq1578 wq1578 hf haq1578 hsq1578
      obtain rfl := Eq.symm hf
      clear haq1577 hsq1577 aq1577 wq1577
      refine wpList_nil ?_
      replace haq1578 := haq1578.pick' (L' := [(1, .pointer (some ⟨g1, 0, none⟩)), (3, v2), (4, .int .i64 s53.2), (15, .bool (decide (s53.2 < (p0a.2.1.length : Int))))]) ⟨rfl, rfl, rfl, rfl, trivial⟩
      refine nrm ?_
      rcases two (decide (s53.2 < (p0a.2.1.length : Int))) with hb98 | hb98
      · replace hm := ifFe hb98 hm
        refine cnd_false (b := decide (s53.2 < (p0a.2.1.length : Int))) haq1578 rfl rfl hb98 ?_
        refine wp_exit ?_
        refine thenX ?_
        refine thenX ?_
        refine ex_in ?_
        refine nrm ?_
        exact ⟨_, loopBrk hm hf9, ⟨haq1578.pick' ⟨rfl, trivial⟩, St.sel hsq1578 3 [1, 2] rfl rfl⟩⟩
      · replace hm := ifTe hb98 hm
        refine cnd_true (b := decide (s53.2 < (p0a.2.1.length : Int))) haq1578 rfl rfl hb98 ?_
        refine wp_skip ?_
        refine nrm ?_
        refine wp_seq ?_
        refine wp_block ?_
        refine wp_seq ?_
        refine wp_region_lit ?_
        refine seq_op0 haq1578 hsq1578 (opT_assign (v := .int .i64 0) rfl rfl) rfl rfl ?_
        rintro u aq1579 wq1579 hf haq1579 hsq1579
        obtain rfl := Eq.symm hf
        clear haq1578 hsq1578 aq1578 wq1578
        refine wpList_nil ?_
        replace haq1579 := haq1579.pick' (L' := [(1, .pointer (some ⟨g1, 0, none⟩)), (3, v2), (4, .int .i64 s53.2), (5, .int .i64 0)]) ⟨rfl, rfl, rfl, rfl, trivial⟩
        refine nrm ?_
        obtain ⟨o47, hl12, hc36⟩ := bindL_some hm
        refine wp_cut (fun a w => ∃ s72 : (List Bool) × Int, o47 = .brk s72 ∧ Agr 55 a [(1, .pointer (some ⟨g1, 0, none⟩)), (3, v2), (4, .int .i64 s53.2)] ∧ St I w0 w [Ch.own (rSlice 4 rBool) [v2] s72.1, Ch.blk g1 [.int .i64 p0a.1, va0, va1] 27, F]) ?_ ?_
        · refine wp_block (wp_loopM (R := List Bool) (S := (List Bool) × Int) (fun s71 a w => Agr 55 a [(1, .pointer (some ⟨g1, 0, none⟩)), (3, v2), (4, .int .i64 s53.2), (5, .int .i64 s71.2)] ∧ St I w0 w [Ch.own (rSlice 4 rBool) [v2] s71.1, Ch.blk g1 [.int .i64 p0a.1, va0, va1] 27, F]) hl12 ?_ ?_)
          · exact ⟨haq1579.pick' ⟨rfl, rfl, rfl, rfl, trivial⟩, St.sel hsq1579 3 [1, 0, 2] rfl rfl⟩
          · rintro s71 o48 hm hf12 aq2094 wq2094 ⟨haq2094, hsq2094⟩
            unfold m_s_l11Live_l1 at hm
            refine wp_seq ?_
            refine wp_seq ?_
            refine wp_region_lit ?_
            refine seq_op0 haq2094 hsq2094 (opT_move (v := .int .i64 s71.2) rfl rfl) rfl rfl ?_
            rintro u aq2095 wq2095 hf haq2095 hsq2095
            obtain rfl := Eq.symm hf
            clear haq2094 hsq2094 aq2094 wq2094
            refine seq_op0 haq2095 hsq2095 (opT_field_addr (g := g1) (b := 0) tf27_1 rfl rfl) rfl rfl ?_
            rintro u aq2096 wq2096 hf haq2096 hsq2096
            obtain rfl := Eq.symm hf
            clear haq2095 hsq2095 aq2095 wq2095
            refine seq_op haq2096 hsq2096 rfl (opT_load_blk (g := g1) (off := 1) (E := 27) (l := [.int .i64 p0a.1, va0, va1]) (d := [va0]) (u := va0) ti22 rfl rfl rfl rfl rfl rfl) (perm_front (i := 1) rfl) rfl ?_
            rintro u aq2097 wq2097 hf haq2097 (hsq2097 : St I w0 wq2097 [Ch.blk g1 [.int .i64 p0a.1, va0, va1] 27, Ch.own (rSlice 4 rBool) [v2] s71.1, F])
            obtain rfl := Eq.symm hf
            clear haq2096 hsq2096 aq2096 wq2096
            refine seq_op0 haq2097 hsq2097 (opT_len_hd (v := va0) (n := p0a.2.1.length) (Hd.of_rd ra0) Try.underlying22 rfl rfl) rfl rfl ?_
            rintro u aq2098 wq2098 hf haq2098 hsq2098
            obtain rfl := Eq.symm hf
            clear haq2097 hsq2097 aq2097 wq2097
            refine seq_op0 haq2098 hsq2098 (opT_cmp (k := .i64) (m := s71.2) (n := (p0a.2.1.length : Int)) (c := decide (s71.2 < (p0a.2.1.length : Int))) rfl rfl rfl rfl rfl) rfl rfl ?_
            rintro u aq2099 wq2099 hf haq2099 hsq2099
            obtain rfl := Eq.symm hf
            clear haq2098 hsq2098 aq2098 wq2098
            refine wpList_nil ?_
            replace haq2099 := haq2099.pick' (L' := [(1, .pointer (some ⟨g1, 0, none⟩)), (3, v2), (4, .int .i64 s53.2), (5, .int .i64 s71.2), (22, .bool (decide (s71.2 < (p0a.2.1.length : Int))))]) ⟨rfl, rfl, rfl, rfl, rfl, trivial⟩
            refine nrm ?_
            rcases two (decide (s71.2 < (p0a.2.1.length : Int))) with hb131 | hb131
            · replace hm := ifFe hb131 hm
              refine cnd_false (b := decide (s71.2 < (p0a.2.1.length : Int))) haq2099 rfl rfl hb131 ?_
              refine wp_exit ?_
              refine thenX ?_
              refine thenX ?_
              refine ex_in ?_
              refine nrm ?_
              exact ⟨_, loopBrk hm hf12, ⟨haq2099.pick' ⟨rfl, rfl, rfl, trivial⟩, St.sel hsq2099 3 [1, 0, 2] rfl rfl⟩⟩
            · replace hm := ifTe hb131 hm
              refine cnd_true (b := decide (s71.2 < (p0a.2.1.length : Int))) haq2099 rfl rfl hb131 ?_
              refine wp_skip ?_
              refine nrm ?_
              refine wp_seq ?_
              refine wp_block ?_
              refine wp_seq ?_
              refine wp_region_lit ?_
              refine seq_op0 haq2099 hsq2099 (opT_assign (v := .int .i64 0) rfl rfl) rfl rfl ?_
              rintro u aq2100 wq2100 hf haq2100 hsq2100
              obtain rfl := Eq.symm hf
              clear haq2099 hsq2099 aq2099 wq2099
              refine wpList_nil ?_
              replace haq2100 := haq2100.pick' (L' := [(1, .pointer (some ⟨g1, 0, none⟩)), (3, v2), (4, .int .i64 s53.2), (5, .int .i64 s71.2), (6, .int .i64 0)]) ⟨rfl, rfl, rfl, rfl, rfl, trivial⟩
              refine nrm ?_
              obtain ⟨o51, hl13, hc39⟩ := bindL_some hm
              refine wp_cut (fun a w => ∃ s78 : (List Bool) × Int, o51 = .brk s78 ∧ Agr 55 a [(1, .pointer (some ⟨g1, 0, none⟩)), (3, v2), (4, .int .i64 s53.2), (5, .int .i64 s71.2)] ∧ St I w0 w [Ch.own (rSlice 4 rBool) [v2] s78.1, Ch.blk g1 [.int .i64 p0a.1, va0, va1] 27, F]) ?_ ?_
              · refine wp_block (wp_loopM (R := List Bool) (S := (List Bool) × Int) (fun s77 a w => Agr 55 a [(1, .pointer (some ⟨g1, 0, none⟩)), (3, v2), (4, .int .i64 s53.2), (5, .int .i64 s71.2), (6, .int .i64 s77.2)] ∧ St I w0 w [Ch.own (rSlice 4 rBool) [v2] s77.1, Ch.blk g1 [.int .i64 p0a.1, va0, va1] 27, F]) hl13 ?_ ?_)
                · exact ⟨haq2100.pick' ⟨rfl, rfl, rfl, rfl, rfl, trivial⟩, St.sel hsq2100 3 [1, 0, 2] rfl rfl⟩
                · rintro s77 o52 hm hf13 aq2265 wq2265 ⟨haq2265, hsq2265⟩
                  unfold m_s_l11Live_l2 at hm
                  refine wp_seq ?_
                  refine wp_seq ?_
                  refine wp_region_lit ?_
                  refine seq_op0 haq2265 hsq2265 (opT_move (v := .int .i64 s77.2) rfl rfl) rfl rfl ?_
                  rintro u aq2266 wq2266 hf haq2266 hsq2266
                  obtain rfl := Eq.symm hf
                  clear haq2265 hsq2265 aq2265 wq2265
                  refine seq_op0 haq2266 hsq2266 (opT_cmp (k := .i64) (m := s77.2) (n := 9) (c := decide (s77.2 < 9)) rfl rfl rfl rfl rfl) rfl rfl ?_
                  rintro u aq2267 wq2267 hf haq2267 hsq2267
                  obtain rfl := Eq.symm hf
                  clear haq2266 hsq2266 aq2266 wq2266
                  refine wpList_nil ?_
                  replace haq2267 := haq2267.pick' (L' := [(1, .pointer (some ⟨g1, 0, none⟩)), (3, v2), (4, .int .i64 s53.2), (5, .int .i64 s71.2), (6, .int .i64 s77.2), (26, .bool (decide (s77.2 < 9)))]) ⟨rfl, rfl, rfl, rfl, rfl, rfl, trivial⟩
                  refine nrm ?_
                  rcases two (decide (s77.2 < 9)) with hb142 | hb142
                  · replace hm := ifFe hb142 hm
                    refine cnd_false (b := decide (s77.2 < 9)) haq2267 rfl rfl hb142 ?_
                    refine wp_exit ?_
                    refine thenX ?_
                    refine thenX ?_
                    refine ex_in ?_
                    refine nrm ?_
                    exact ⟨_, loopBrk hm hf13, ⟨haq2267.pick' ⟨rfl, rfl, rfl, rfl, trivial⟩, St.sel hsq2267 3 [0, 1, 2] rfl rfl⟩⟩
                  · replace hm := ifTe hb142 hm
                    refine cnd_true (b := decide (s77.2 < 9)) haq2267 rfl rfl hb142 ?_
                    refine wp_skip ?_
                    refine nrm ?_
                    obtain ⟨s79, hj27, hm⟩ := bind_some hm
                    refine wp_seq_cut (fun a w => Agr 55 a [(1, .pointer (some ⟨g1, 0, none⟩)), (3, v2), (4, .int .i64 s53.2), (5, .int .i64 s71.2), (6, .int .i64 s77.2)] ∧ St I w0 w [Ch.own (rSlice 4 rBool) [v2] s79, Ch.blk g1 [.int .i64 p0a.1, va0, va1] 27, F]) ?_ ?_
                    · replace hm := hj27
                      refine wp_block ?_
                      refine wp_seq ?_
                      refine wp_region_lit ?_
                      refine seq_op0 haq2267 hsq2267 (opT_field_addr (g := g1) (b := 0) tf27_2 rfl rfl) rfl rfl ?_
                      rintro u aq2306 wq2306 hf haq2306 hsq2306
                      obtain rfl := Eq.symm hf
                      clear haq2267 hsq2267 aq2267 wq2267
                      refine seq_op haq2306 hsq2306 rfl (opT_load_blk (g := g1) (off := 2) (E := 27) (l := [.int .i64 p0a.1, va0, va1]) (d := [va1]) (u := va1) ti23 rfl rfl rfl rfl rfl rfl) (perm_front (i := 1) rfl) rfl ?_
                      rintro u aq2307 wq2307 hf haq2307 (hsq2307 : St I w0 wq2307 [Ch.blk g1 [.int .i64 p0a.1, va0, va1] 27, Ch.own (rSlice 4 rBool) [v2] s77.1, F])
                      obtain rfl := Eq.symm hf
                      clear haq2306 hsq2306 aq2306 wq2306
                      refine seq_op0 haq2307 hsq2307 (opT_move (v := .int .i64 s71.2) rfl rfl) rfl rfl ?_
                      rintro u aq2308 wq2308 hf haq2308 hsq2308
                      obtain rfl := Eq.symm hf
                      clear haq2307 hsq2307 aq2307 wq2307
                      obtain ⟨x319, e320, hm⟩ := bind_some hm
                      refine seq_op0 haq2308 hsq2308 (opT_index_hd (xs := p0a.2.2) (i := s71.2) (n := 1) (Hd.of_rd ra1) Try.underlying23 ti34 rfl rfl rfl (getI_in e320)) rfl rfl ?_
                      rintro u aq2309 wq2309 hf haq2309 hsq2309
                      obtain rfl := Eq.symm hf
                      clear haq2308 hsq2308 aq2308 wq2308
                      refine seq_op0 haq2309 hsq2309 (opT_load_el (S := rSlice 3 rInt) (xs := p0a.2.2) (a := x319) (i := s71.2) (k := 1) (off := 0) (f := fun (x : List Int) => x) ra1 e320 Fld.self ti34 rfl rfl rfl rfl rfl) rfl rfl ?_
                      rintro v109 aq2310 wq2310 hf haq2310 hsq2310
                      have r107 := lds_sl hf
                      clear hf
                      clear haq2309 hsq2309 aq2309 wq2309
                      refine seq_op0 haq2310 hsq2310 (opT_move (v := .int .i64 s77.2) rfl rfl) rfl rfl ?_
                      rintro u aq2311 wq2311 hf haq2311 hsq2311
                      obtain rfl := Eq.symm hf
                      clear haq2310 hsq2310 aq2310 wq2310
                      obtain ⟨x320, e321, hm⟩ := bind_some hm
                      refine seq_op0 haq2311 hsq2311 (opT_index_hd (xs := x319) (i := s77.2) (n := 1) (Hd.of_rd r107) Try.underlying34 ti3 rfl rfl rfl (getI_in e321)) rfl rfl ?_
                      rintro u aq2312 wq2312 hf haq2312 hsq2312
                      obtain rfl := Eq.symm hf
                      clear haq2311 hsq2311 aq2311 wq2311
                      refine seq_op0 haq2312 hsq2312 (opT_load_el (S := rInt) (xs := x319) (a := x320) (i := s77.2) (k := 1) (off := 0) (f := fun (x : Int) => x) r107 e321 Fld.self ti3 rfl rfl rfl rfl rfl) rfl rfl ?_
                      rintro u aq2313 wq2313 hf haq2313 hsq2313
                      obtain rfl := lds_one hf
                      clear haq2312 hsq2312 aq2312 wq2312
                      refine seq_op0 haq2313 hsq2313 (opT_cmp (k := .i64) (m := x320) (n := 0) (c := decide (x320 ≥ 0)) rfl rfl rfl rfl rfl) rfl rfl ?_
                      rintro u aq2314 wq2314 hf haq2314 hsq2314
                      obtain rfl := Eq.symm hf
                      clear haq2313 hsq2313 aq2313 wq2313
                      refine seq_op0 haq2314 hsq2314 (opT_move (v := .bool (decide (x320 ≥ 0))) rfl rfl) rfl rfl ?_
                      rintro u aq2315 wq2315 hf haq2315 hsq2315
                      obtain rfl := Eq.symm hf
                      clear haq2314 hsq2314 aq2314 wq2314
                      rcases two (decide (x320 ≥ 0)) with hb145 | hb145
                      · replace hm := ifFe hb145 hm
                        refine seq_skip (g := 9) (d := 38) (want := true) (b := decide (x320 ≥ 0)) haq2315 hsq2315 rfl rfl rfl hb145 rfl ?_
                        intro aq2316 haq2316
                        refine seq_skip (g := 9) (d := 38) (want := true) (b := decide (x320 ≥ 0)) haq2316 hsq2315 rfl rfl rfl hb145 rfl ?_
                        intro aq2317 haq2317
                        refine seq_skip (g := 9) (d := 38) (want := true) (b := decide (x320 ≥ 0)) haq2317 hsq2315 rfl rfl rfl hb145 rfl ?_
                        intro aq2318 haq2318
                        refine seq_skip (g := 9) (d := 38) (want := true) (b := decide (x320 ≥ 0)) haq2318 hsq2315 rfl rfl rfl hb145 rfl ?_
                        intro aq2319 haq2319
                        refine seq_skip (g := 9) (d := 38) (want := true) (b := decide (x320 ≥ 0)) haq2319 hsq2315 rfl rfl rfl hb145 rfl ?_
                        intro aq2320 haq2320
                        refine seq_skip (g := 9) (d := 38) (want := true) (b := decide (x320 ≥ 0)) haq2320 hsq2315 rfl rfl rfl hb145 rfl ?_
                        intro aq2321 haq2321
                        refine seq_skip (g := 9) (d := 38) (want := true) (b := decide (x320 ≥ 0)) haq2321 hsq2315 rfl rfl rfl hb145 rfl ?_
                        intro aq2322 haq2322
                        refine seq_skip (g := 9) (d := 38) (want := true) (b := decide (x320 ≥ 0)) haq2322 hsq2315 rfl rfl rfl hb145 rfl ?_
                        intro aq2323 haq2323
                        refine seq_skip (g := 9) (d := 38) (want := true) (b := decide (x320 ≥ 0)) haq2323 hsq2315 rfl rfl rfl hb145 rfl ?_
                        intro aq2324 haq2324
                        refine seq_skip (g := 9) (d := 38) (want := true) (b := decide (x320 ≥ 0)) haq2324 hsq2315 rfl rfl rfl hb145 rfl ?_
                        intro aq2325 haq2325
                        refine seq_skip (g := 9) (d := 38) (want := true) (b := decide (x320 ≥ 0)) haq2325 hsq2315 rfl rfl rfl hb145 rfl ?_
                        intro aq2326 haq2326
                        refine seq_op0 haq2326 hsq2315 (opT_pick (b := decide (x320 ≥ 0)) (v := .bool false) rfl rfl (ifF hb145)) rfl rfl ?_
                        rintro u aq2327 wq2327 hf haq2327 hsq2327
                        obtain rfl := Eq.symm hf
                        clear haq2326 hsq2315 aq2326 wq2315
                        refine wpList_nil ?_
                        replace haq2327 := haq2327.pick' (L' := [(1, .pointer (some ⟨g1, 0, none⟩)), (3, v2), (4, .int .i64 s53.2), (5, .int .i64 s71.2), (6, .int .i64 s77.2), (50, .bool false)]) ⟨rfl, rfl, rfl, rfl, rfl, rfl, trivial⟩
                        refine nrm ?_
                        refine cnd_false (b := false) haq2327 rfl rfl rfl ?_
                        refine wp_skip ?_
                        refine nrmB ?_
                        refine nrm ?_
                        obtain rfl := Option.some.inj hm
                        exact ⟨haq2327.pick' ⟨rfl, rfl, rfl, rfl, rfl, trivial⟩, St.sel hsq2327 3 [1, 0, 2] rfl rfl⟩
                      · replace hm := ifTe hb145 hm
                        refine seq_op_g0 (g := 9) (d := 38) (want := true) (b := decide (x320 ≥ 0)) haq2315 hsq2315 rfl rfl rfl hb145 (opT_move (v := v2) rfl rfl) rfl ?_
                        rintro u aq2328 wq2328 hf haq2328 hsq2328
                        obtain rfl := Eq.symm hf
                        clear haq2315 hsq2315 aq2315 wq2315
                        refine seq_op_g0 (g := 9) (d := 38) (want := true) (b := decide (x320 ≥ 0)) haq2328 hsq2328 rfl rfl rfl hb145 (opT_field_addr (g := g1) (b := 0) tf27_2 rfl rfl) rfl ?_
                        rintro u aq2329 wq2329 hf haq2329 hsq2329
                        obtain rfl := Eq.symm hf
                        clear haq2328 hsq2328 aq2328 wq2328
                        refine seq_op_g (g := 9) (d := 38) (want := true) (b := decide (x320 ≥ 0)) haq2329 hsq2329 rfl rfl rfl hb145 (opT_load_blk (g := g1) (off := 2) (E := 27) (l := [.int .i64 p0a.1, va0, va1]) (d := [va1]) (u := va1) ti23 rfl rfl rfl rfl rfl rfl) (perm_front (i := 0) rfl) rfl ?_
                        rintro u aq2330 wq2330 hf haq2330 (hsq2330 : St I w0 wq2330 [Ch.blk g1 [.int .i64 p0a.1, va0, va1] 27, Ch.own (rSlice 4 rBool) [v2] s77.1, F])
                        obtain rfl := Eq.symm hf
                        clear haq2329 hsq2329 aq2329 wq2329
                        refine seq_op_g0 (g := 9) (d := 38) (want := true) (b := decide (x320 ≥ 0)) haq2330 hsq2330 rfl rfl rfl hb145 (opT_move (v := .int .i64 s71.2) rfl rfl) rfl ?_
                        rintro u aq2331 wq2331 hf haq2331 hsq2331
                        obtain rfl := Eq.symm hf
                        clear haq2330 hsq2330 aq2330 wq2330
                        obtain ⟨x321, e322, hm⟩ := bind_some hm
                        refine seq_op_g0 (g := 9) (d := 38) (want := true) (b := decide (x320 ≥ 0)) haq2331 hsq2331 rfl rfl rfl hb145 (opT_index_hd (xs := p0a.2.2) (i := s71.2) (n := 1) (Hd.of_rd ra1) Try.underlying23 ti34 rfl rfl rfl (getI_in e322)) rfl ?_
                        rintro u aq2332 wq2332 hf haq2332 hsq2332
                        obtain rfl := Eq.symm hf
                        clear haq2331 hsq2331 aq2331 wq2331
                        refine seq_op_g0 (g := 9) (d := 38) (want := true) (b := decide (x320 ≥ 0)) haq2332 hsq2332 rfl rfl rfl hb145 (opT_load_el (S := rSlice 3 rInt) (xs := p0a.2.2) (a := x321) (i := s71.2) (k := 1) (off := 0) (f := fun (x : List Int) => x) ra1 e322 Fld.self ti34 rfl rfl rfl rfl rfl) rfl ?_
                        rintro v110 aq2333 wq2333 hf haq2333 hsq2333
                        have r108 := lds_sl hf
                        clear hf
                        clear haq2332 hsq2332 aq2332 wq2332
                        refine seq_op_g0 (g := 9) (d := 38) (want := true) (b := decide (x320 ≥ 0)) haq2333 hsq2333 rfl rfl rfl hb145 (opT_move (v := .int .i64 s77.2) rfl rfl) rfl ?_
                        rintro u aq2334 wq2334 hf haq2334 hsq2334
                        obtain rfl := Eq.symm hf
                        clear haq2333 hsq2333 aq2333 wq2333
                        obtain ⟨x322, e323, hm⟩ := bind_some hm
                        refine seq_op_g0 (g := 9) (d := 38) (want := true) (b := decide (x320 ≥ 0)) haq2334 hsq2334 rfl rfl rfl hb145 (opT_index_hd (xs := x321) (i := s77.2) (n := 1) (Hd.of_rd r108) Try.underlying34 ti3 rfl rfl rfl (getI_in e323)) rfl ?_
                        rintro u aq2335 wq2335 hf haq2335 hsq2335
                        obtain rfl := Eq.symm hf
                        clear haq2334 hsq2334 aq2334 wq2334
                        refine seq_op_g0 (g := 9) (d := 38) (want := true) (b := decide (x320 ≥ 0)) haq2335 hsq2335 rfl rfl rfl hb145 (opT_load_el (S := rInt) (xs := x321) (a := x322) (i := s77.2) (k := 1) (off := 0) (f := fun (x : Int) => x) r108 e323 Fld.self ti3 rfl rfl rfl rfl rfl) rfl ?_
                        rintro u aq2336 wq2336 hf haq2336 hsq2336
                        obtain rfl := lds_one hf
                        clear haq2335 hsq2335 aq2335 wq2335
                        obtain ⟨x323, e324, hm⟩ := bind_some hm
                        refine seq_op_g0 (g := 9) (d := 38) (want := true) (b := decide (x320 ≥ 0)) haq2336 hsq2336 rfl rfl rfl hb145 (opT_index_hd (xs := s77.1) (i := x322) (n := 1) (St.hd hsq2336 1 rfl).1 Try.underlying22 ti4 rfl rfl rfl (getI_in e324)) rfl ?_
                        rintro u aq2337 wq2337 hf haq2337 hsq2337
                        obtain rfl := Eq.symm hf
                        clear haq2336 hsq2336 aq2336 wq2336
                        refine seq_op_g (g := 9) (d := 38) (want := true) (b := decide (x320 ≥ 0)) haq2337 hsq2337 rfl rfl rfl hb145 (opT_load_own (E := 4) (R := rBool) (S := rBool) (xs := s77.1) (a := x323) (i := x322) (k := 1) (off := 0) (f := fun (x : Bool) => x) sh_bool e324 Fld.self ti4 rfl rfl rfl rfl rfl) (perm_front (i := 1) rfl) rfl ?_
                        rintro u aq2338 wq2338 hf haq2338 (hsq2338 : St I w0 wq2338 [Ch.own (rSlice 4 rBool) [v2] s77.1, Ch.blk g1 [.int .i64 p0a.1, va0, va1] 27, F])
                        obtain rfl := lds_one hf
                        clear haq2337 hsq2337 aq2337 wq2337
                        refine seq_op0 haq2338 hsq2338 (opT_pick (b := decide (x320 ≥ 0)) (v := .bool x323) rfl rfl (ifT hb145)) rfl rfl ?_
                        rintro u aq2339 wq2339 hf haq2339 hsq2339
                        obtain rfl := Eq.symm hf
                        clear haq2338 hsq2338 aq2338 wq2338
                        refine wpList_nil ?_
                        replace haq2339 := haq2339.pick' (L' := [(1, .pointer (some ⟨g1, 0, none⟩)), (3, v2), (4, .int .i64 s53.2), (5, .int .i64 s71.2), (6, .int .i64 s77.2), (50, .bool x323)]) ⟨rfl, rfl, rfl, rfl, rfl, rfl, trivial⟩
                        refine nrm ?_
                        rcases two (x323) with hb146 | hb146
                        · replace hm := ifFe hb146 hm
                          refine cnd_false (b := x323) haq2339 rfl rfl hb146 ?_
                          refine wp_skip ?_
                          refine nrmB ?_
                          refine nrm ?_
                          obtain rfl := Option.some.inj hm
                          exact ⟨haq2339.pick' ⟨rfl, rfl, rfl, rfl, rfl, trivial⟩, St.sel hsq2339 3 [0, 1, 2] rfl rfl⟩
                        · replace hm := ifTe hb146 hm
                          refine cnd_true (b := x323) haq2339 rfl rfl hb146 ?_
                          refine wp_region_lit ?_
                          refine seq_op0 haq2339 hsq2339 (opT_move (v := v2) rfl rfl) rfl rfl ?_
                          rintro u aq2340 wq2340 hf haq2340 hsq2340
                          obtain rfl := Eq.symm hf
                          clear haq2339 hsq2339 aq2339 wq2339
                          refine seq_op0 haq2340 hsq2340 (opT_move (v := .int .i64 s71.2) rfl rfl) rfl rfl ?_
                          rintro u aq2341 wq2341 hf haq2341 hsq2341
                          obtain rfl := Eq.symm hf
                          clear haq2340 hsq2340 aq2340 wq2340
                          obtain ⟨x324, e325, hm⟩ := bind_some hm
                          refine seq_op0 haq2341 hsq2341 (opT_index_hd (xs := s77.1) (i := s71.2) (n := 1) (St.hd hsq2341 0 rfl).1 Try.underlying22 ti4 rfl rfl rfl (getI_in e325)) rfl rfl ?_
                          rintro u aq2342 wq2342 hf haq2342 hsq2342
                          obtain rfl := Eq.symm hf
                          clear haq2341 hsq2341 aq2341 wq2341
                          refine seq_op haq2342 hsq2342 rfl (opT_store_el (E := 4) (R := rBool) (S := rBool) (xs := s77.1) (a := x324) (b := true) (i := s71.2) (k := 1) (off := 0) (f := fun x y => y) (v := v2) (d := [.bool true]) (u := .bool true) sh_bool cpy_bool e325 Upd.self ti4 rfl rfl rfl rfl (allC rfl allN) rfl rfl (by decide) rfl) (perm_front (i := 0) rfl) rfl ?_
                          rintro _ aq2343 wq2343 - haq2343 (hsq2343 : St I w0 wq2343 [Ch.own (rSlice 4 rBool) [v2] (s77.1.set s71.2.toNat true), Ch.blk g1 [.int .i64 p0a.1, va0, va1] 27, F])
                          clear haq2342 hsq2342 aq2342 wq2342
                          refine wpList_nil ?_
                          replace haq2343 := haq2343.pick' (L' := [(1, .pointer (some ⟨g1, 0, none⟩)), (3, v2), (4, .int .i64 s53.2), (5, .int .i64 s71.2), (6, .int .i64 s77.2)]) ⟨rfl, rfl, rfl, rfl, rfl, trivial⟩
                          refine nrmB ?_
                          refine nrm ?_
                          obtain rfl := Option.some.inj hm
                          exact ⟨haq2343.pick' ⟨rfl, rfl, rfl, rfl, rfl, trivial⟩, St.sel hsq2343 3 [0, 1, 2] rfl rfl⟩
                    · rintro aq2344 wq2344 ⟨haq2344, hsq2344⟩
                      refine wp_region_lit ?_
                      refine seq_op0 haq2344 hsq2344 (opT_move (v := .int .i64 s77.2) rfl rfl) rfl rfl ?_
                      rintro u aq2345 wq2345 hf haq2345 hsq2345
                      obtain rfl := Eq.symm hf
                      clear haq2344 hsq2344 aq2344 wq2344
                      refine seq_op0 haq2345 hsq2345 (opT_add (m := s77.2) (n := 1) rfl rfl rfl) rfl rfl ?_
                      rintro u aq2346 wq2346 hf haq2346 hsq2346
                      obtain rfl := Eq.symm hf
                      clear haq2345 hsq2345 aq2345 wq2345
                      refine seq_op0 haq2346 hsq2346 (opT_assign (v := .int .i64 (IntKind.i64.wrap (s77.2 + 1))) rfl rfl) rfl rfl ?_
                      rintro u aq2347 wq2347 hf haq2347 hsq2347
                      obtain rfl := Eq.symm hf
                      clear haq2346 hsq2346 aq2346 wq2346
                      refine wpList_nil ?_
                      replace haq2347 := haq2347.pick' (L' := [(1, .pointer (some ⟨g1, 0, none⟩)), (3, v2), (4, .int .i64 s53.2), (5, .int .i64 s71.2), (6, .int .i64 (IntKind.i64.wrap (s77.2 + 1)))]) ⟨rfl, rfl, rfl, rfl, rfl, trivial⟩
                      refine nrm ?_
                      exact ⟨_, (Option.some.inj hm).symm, ⟨haq2347.pick' ⟨rfl, rfl, rfl, rfl, rfl, trivial⟩, St.sel hsq2347 3 [0, 1, 2] rfl rfl⟩⟩
              · rintro aq2348 wq2348 ⟨s78, ho38, haq2348, hsq2348⟩
                replace hm := loopOut ho38 hc39
                clear ho38 hc39 hl13
                refine nrmB ?_
                refine nrm ?_
                refine wp_region_lit ?_
                refine seq_op0 haq2348 hsq2348 (opT_move (v := .int .i64 s71.2) rfl rfl) rfl rfl ?_
                rintro u aq2349 wq2349 hf haq2349 hsq2349
                obtain rfl := Eq.symm hf
                clear haq2348 hsq2348 aq2348 wq2348
                refine seq_op0 haq2349 hsq2349 (opT_add (m := s71.2) (n := 1) rfl rfl rfl) rfl rfl ?_
                rintro u aq2350 wq2350 hf haq2350 hsq2350
                obtain rfl := Eq.symm hf
                clear haq2349 hsq2349 aq2349 wq2349
                refine seq_op0 haq2350 hsq2350 (opT_assign (v := .int .i64 (IntKind.i64.wrap (s71.2 + 1))) rfl rfl) rfl rfl ?_
                rintro u aq2351 wq2351 hf haq2351 hsq2351
                obtain rfl := Eq.symm hf
                clear haq2350 hsq2350 aq2350 wq2350
                refine wpList_nil ?_
                replace haq2351 := haq2351.pick' (L' := [(1, .pointer (some ⟨g1, 0, none⟩)), (3, v2), (4, .int .i64 s53.2), (5, .int .i64 (IntKind.i64.wrap (s71.2 + 1)))]) ⟨rfl, rfl, rfl, rfl, trivial⟩
                refine nrm ?_
                exact ⟨_, (Option.some.inj hm).symm, ⟨haq2351.pick' ⟨rfl, rfl, rfl, rfl, trivial⟩, St.sel hsq2351 3 [0, 1, 2] rfl rfl⟩⟩
        · rintro aq2352 wq2352 ⟨s72, ho39, haq2352, hsq2352⟩
          replace hm := loopOut ho39 hc36
          clear ho39 hc36 hl12
          refine nrmB ?_
          refine nrm ?_
          refine wp_region_lit ?_
          refine seq_op0 haq2352 hsq2352 (opT_move (v := .int .i64 s53.2) rfl rfl) rfl rfl ?_
          rintro u aq2353 wq2353 hf haq2353 hsq2353
          obtain rfl := Eq.symm hf
          clear haq2352 hsq2352 aq2352 wq2352
          refine seq_op0 haq2353 hsq2353 (opT_add (m := s53.2) (n := 1) rfl rfl rfl) rfl rfl ?_
          rintro u aq2354 wq2354 hf haq2354 hsq2354
          obtain rfl := Eq.symm hf
          clear haq2353 hsq2353 aq2353 wq2353
          refine seq_op0 haq2354 hsq2354 (opT_assign (v := .int .i64 (IntKind.i64.wrap (s53.2 + 1))) rfl rfl) rfl rfl ?_
          rintro u aq2355 wq2355 hf haq2355 hsq2355
          obtain rfl := Eq.symm hf
          clear haq2354 hsq2354 aq2354 wq2354
          refine wpList_nil ?_
          replace haq2355 := haq2355.pick' (L' := [(1, .pointer (some ⟨g1, 0, none⟩)), (3, v2), (4, .int .i64 (IntKind.i64.wrap (s53.2 + 1)))]) ⟨rfl, rfl, rfl, trivial⟩
          refine nrm ?_
          exact ⟨_, (Option.some.inj hm).symm, ⟨haq2355.pick' ⟨rfl, rfl, rfl, trivial⟩, St.sel hsq2355 3 [0, 1, 2] rfl rfl⟩⟩
  · rintro aq2356 wq2356 ⟨s54, ho40, haq2356, hsq2356⟩
    replace hm := loopOut ho40 hc27
    clear ho40 hc27 hl9
    refine nrm ?_
    refine wp_seq ?_
    refine wp_region_lit ?_
    refine seq_op0 haq2356 hsq2356 (opT_move (v := v2) rfl rfl) rfl rfl ?_
    rintro u aq2357 wq2357 hf haq2357 hsq2357
    obtain rfl := Eq.symm hf
    clear haq2356 hsq2356 aq2356 wq2356
    refine seq_op0 haq2357 hsq2357 (opT_assign (v := v2) rfl rfl) rfl rfl ?_
    rintro u aq2358 wq2358 hf haq2358 hsq2358
    obtain rfl := Eq.symm hf
    clear haq2357 hsq2357 aq2357 wq2357
    refine wpList_nil ?_
    replace haq2358 := haq2358.pick' (L' := [(2, v2)]) ⟨rfl, trivial⟩
    refine nrm ?_
    refine wp_ret ?_
    obtain rfl := Option.some.inj hm
    exact ret_1 haq2358 rfl (res_tmp haq2358 rfl) ⟨_, rfl, trivial, _, Hp.le.rfl, St.sel (hsq2358) 2 [0, 1] rfl rfl⟩
set_option maxHeartbeats 8000000 in
theorem c_g_slices_Equal_S_bool_bool (p0s1 : List Bool) (p1s2 : List Bool) (r : Bool) (hm : m_g_slices_Equal_S_bool_bool p0s1 p1s2 = some r) {I : Hp} {w0 : World} (va0 : Value) (va1 : Value) (ra0 : (rSlice 4 rBool).rd I [va0] p0s1) (ra1 : (rSlice 4 rBool).rd I [va1] p1s2) : Con Try.prog 106 #[va0, va1] I w0 [] (fun v => v = .bool r) (fun v => []) := by
  refine con_of_wp (n := 26) [(0, va0), (1, va1)] Try.func106 rfl rfl (Nat.le_of_ble_eq_true rfl) (args_all ⟨rfl, rfl, trivial⟩) (fun F w a ha hs => ?_) (fun v => trivial)
  unfold m_g_slices_Equal_S_bool_bool at hm
  refine wp_seq ?_
  refine wp_region_lit ?_
  refine seq_op0 ha hs (opT_assign (v := .bool false) rfl rfl) rfl rfl ?_
  rintro u aq1 wq1 hf haq1 hsq1
  obtain rfl := Eq.symm hf
  clear ha hs a w
  refine wpList_nil ?_
  replace haq1 := haq1.pick' (L' := [(0, va0), (1, va1)]) ⟨rfl, rfl, trivial⟩
  refine nrm ?_
  refine wp_seq ?_
  refine wp_seq ?_
  refine wp_region_lit ?_
  refine seq_op0 haq1 hsq1 (opT_move (v := va0) rfl rfl) rfl rfl ?_
  rintro u aq2 wq2 hf haq2 hsq2
  obtain rfl := Eq.symm hf
  clear haq1 hsq1 aq1 wq1
  refine seq_op0 haq2 hsq2 (opT_len_hd (v := va0) (n := p0s1.length) (Hd.of_rd ra0) Try.underlying22 rfl rfl) rfl rfl ?_
  rintro u aq3 wq3 hf haq3 hsq3
  obtain rfl := Eq.symm hf
  clear haq2 hsq2 aq2 wq2
  refine seq_op0 haq3 hsq3 (opT_move (v := va1) rfl rfl) rfl rfl ?_
  rintro u aq4 wq4 hf haq4 hsq4
  obtain rfl := Eq.symm hf
  clear haq3 hsq3 aq3 wq3
  refine seq_op0 haq4 hsq4 (opT_len_hd (v := va1) (n := p1s2.length) (Hd.of_rd ra1) Try.underlying22 rfl rfl) rfl rfl ?_
  rintro u aq5 wq5 hf haq5 hsq5
  obtain rfl := Eq.symm hf
  clear haq4 hsq4 aq4 wq4
  refine seq_op0 haq5 hsq5 (opT_cmp (k := .i64) (m := (p0s1.length : Int)) (n := (p1s2.length : Int)) (c := (p0s1.length : Int) != (p1s2.length : Int)) rfl rfl rfl rfl rfl) rfl rfl ?_
  rintro u aq6 wq6 hf haq6 hsq6
  obtain rfl := Eq.symm hf
  clear haq5 hsq5 aq5 wq5
  refine wpList_nil ?_
  replace haq6 := haq6.pick' (L' := [(0, va0), (1, va1), (10, .bool ((p0s1.length : Int) != (p1s2.length : Int)))]) ⟨rfl, rfl, rfl, trivial⟩
  refine nrm ?_
  rcases two ((p0s1.length : Int) != (p1s2.length : Int)) with hb1 | hb1
  · replace hm := ifFe hb1 hm
    refine cnd_false (b := (p0s1.length : Int) != (p1s2.length : Int)) haq6 rfl rfl hb1 ?_
    refine wp_skip ?_
    refine nrm ?_
    refine wp_seq ?_
    refine wp_seq ?_
    refine wp_region_lit ?_
    refine seq_op0 haq6 hsq6 (opT_move (v := va0) rfl rfl) rfl rfl ?_
    rintro u aq7 wq7 hf haq7 hsq7
    obtain rfl := Eq.symm hf
    clear haq6 hsq6 aq6 wq6
    refine seq_op0 haq7 hsq7 (opT_len_hd (v := va0) (n := p0s1.length) (Hd.of_rd ra0) Try.underlying22 rfl rfl) rfl rfl ?_
    rintro u aq8 wq8 hf haq8 hsq8
    obtain rfl := Eq.symm hf
    clear haq7 hsq7 aq7 wq7
    refine seq_op0 haq8 hsq8 (opT_move (v := .int .i64 0) rfl rfl) rfl rfl ?_
    rintro u aq9 wq9 hf haq9 hsq9
    obtain rfl := Eq.symm hf
    clear haq8 hsq8 aq8 wq8
    refine wpList_nil ?_
    replace haq9 := haq9.pick' (L' := [(0, va0), (1, va1), (12, .int .i64 (p0s1.length : Int)), (13, .int .i64 0)]) ⟨rfl, rfl, rfl, rfl, trivial⟩
    refine nrm ?_
    obtain ⟨o1, hl1, hc1⟩ := bindL_some hm
    refine wp_cut (fun a w => ∃ s4 : Int, o1 = .brk s4 ∧ Agr 26 a [] ∧ St I w0 w [F]) ?_ ?_
    · refine wp_block (wp_loopM (R := Bool) (S := Int) (fun s3 a w => Agr 26 a [(0, va0), (1, va1), (12, .int .i64 (p0s1.length : Int)), (13, .int .i64 s3)] ∧ St I w0 w [F]) hl1 ?_ ?_)
      · exact ⟨haq9.pick' ⟨rfl, rfl, rfl, rfl, trivial⟩, St.sel hsq9 1 [0] rfl rfl⟩
      · rintro s3 o2 hm hf1 aq22 wq22 ⟨haq22, hsq22⟩
        unfold m_g_slices_Equal_S_bool_bool_l0 at hm
        refine wp_seq ?_
        refine wp_region_lit ?_
        refine seq_op0 haq22 hsq22 (opT_cmp (k := .i64) (m := s3) (n := (p0s1.length : Int)) (c := decide (s3 < (p0s1.length : Int))) rfl rfl rfl rfl rfl) rfl rfl ?_
        rintro u aq23 wq23 hf haq23 hsq23
        obtain rfl := Eq.symm hf
        clear haq22 hsq22 aq22 wq22
        refine wpList_nil ?_
        replace haq23 := haq23.pick' (L' := [(0, va0), (1, va1), (12, .int .i64 (p0s1.length : Int)), (13, .int .i64 s3), (14, .bool (decide (s3 < (p0s1.length : Int))))]) ⟨rfl, rfl, rfl, rfl, rfl, trivial⟩
        refine nrm ?_
        refine wp_seq ?_
        rcases two (decide (s3 < (p0s1.length : Int))) with hb6 | hb6
        · replace hm := ifFe hb6 hm
          refine cnd_false (b := decide (s3 < (p0s1.length : Int))) haq23 rfl rfl hb6 ?_
          refine wp_exit ?_
          refine thenX ?_
          refine thenX ?_
          refine ex_in ?_
          refine nrm ?_
          exact ⟨_, loopBrk hm hf1, ⟨haq23.pick' trivial, St.sel hsq23 1 [0] rfl rfl⟩⟩
        · replace hm := ifTe hb6 hm
          refine cnd_true (b := decide (s3 < (p0s1.length : Int))) haq23 rfl rfl hb6 ?_
          refine wp_skip ?_
          refine nrm ?_
          refine wp_seq ?_
          refine wp_block ?_
          refine wp_seq ?_
          refine wp_region_lit ?_
          refine seq_op0 haq23 hsq23 (opT_move (v := .int .i64 s3) rfl rfl) rfl rfl ?_
          rintro u aq24 wq24 hf haq24 hsq24
          obtain rfl := Eq.symm hf
          clear haq23 hsq23 aq23 wq23
          refine seq_op0 haq24 hsq24 (opT_assign (v := .int .i64 s3) rfl rfl) rfl rfl ?_
          rintro u aq25 wq25 hf haq25 hsq25
          obtain rfl := Eq.symm hf
          clear haq24 hsq24 aq24 wq24
          refine wpList_nil ?_
          replace haq25 := haq25.pick' (L' := [(0, va0), (1, va1), (5, .int .i64 s3), (12, .int .i64 (p0s1.length : Int)), (13, .int .i64 s3)]) ⟨rfl, rfl, rfl, rfl, rfl, trivial⟩
          refine nrm ?_
          refine wp_seq ?_
          obtain ⟨x5, e5, hm⟩ := bind_some hm
          obtain ⟨x6, e6, hm⟩ := bind_some hm
          refine wp_draw (L := [(0, va0), (1, va1), (5, .int .i64 s3), (12, .int .i64 (p0s1.length : Int)), (13, .int .i64 s3)]) (C := [F]) { ops := [⟨[], [], [], [0], fun | [xo0] => xo0 = va0 | _ => True, [(0, none)]⟩, ⟨[], [], [], [1], fun | [xo1] => xo1 = .int .i64 s3 | _ => True, [(5, none)]⟩, ⟨[], [], [], [2], fun | [xo2] => xo2 = pt va0 (s3.toNat * 1) | _ => True, [(16, some 0), (17, some 1)]⟩, ⟨[], [], [], [3], fun | [xo3] => xo3 = .bool x5 | _ => True, [(18, some 2)]⟩, ⟨[], [], [], [4], fun | [xo4] => xo4 = va1 | _ => True, [(1, none)]⟩, ⟨[], [], [], [5], fun | [xo5] => xo5 = .int .i64 s3 | _ => True, [(5, none)]⟩, ⟨[], [], [], [6], fun | [xo6] => xo6 = pt va1 (s3.toNat * 1) | _ => True, [(20, some 4), (21, some 5)]⟩, ⟨[], [], [], [7], fun | [xo7] => xo7 = .bool x6 | _ => True, [(22, some 6)]⟩, ⟨[], [], [], [8], fun | [xo8] => xo8 = .bool (x5 != x6) | _ => True, [(19, some 3), (23, some 7)]⟩], res := [], base := [], pre := [[], [], [0, 1], [0, 1, 2], [], [], [4, 5], [4, 5, 6], [0, 1, 2, 3, 4, 5, 6, 7]], fin := [(0, none), (1, none), (12, none), (13, none), (24, some 8)], left := [] } (by kernel_rfl) haq25 hsq25 (perm_sel [0] (m := 1) rfl rfl) (by kernel_rfl) (by kernel_rfl) ?_ ?_
          · exact ⟨Plan.goal_run fun vs hf => ⟨wants_none rfl, OpT.conv (OpT.evs (ev' := evL [(0, va0)]) (opT_move (v := va0) rfl rfl) rfl [.tmp 0] rfl ⟨rfl, trivial⟩) rfl (fun _ h => Eq.trans h rfl) (fun _ => rfl)⟩, Plan.goal_run fun vs hf => ⟨wants_none rfl, OpT.conv (OpT.evs (ev' := evL [(5, .int .i64 s3)]) (opT_move (v := .int .i64 s3) rfl rfl) rfl [.tmp 5] rfl ⟨rfl, trivial⟩) rfl (fun _ h => Eq.trans h rfl) (fun _ => rfl)⟩, Plan.goal_run fun vs hf => ⟨wants_none rfl, OpT.conv (OpT.evs (ev' := evL [(16, va0), (17, .int .i64 s3)]) (opT_index_hd (xs := p0s1) (i := s3) (n := 1) (Hd.of_rd ra0) Try.underlying22 ti4 rfl rfl rfl (getI_in e5)) rfl [.tmp 16, .tmp 17] rfl ⟨(hf 0 (mb rfl)), (hf 1 (mb rfl)), trivial⟩) rfl (fun _ h => Eq.trans h rfl) (fun _ => rfl)⟩, Plan.goal_run fun vs hf => ⟨wants_none rfl, OpT.conv (OpT.evs (ev' := evL [(18, pt va0 (s3.toNat * 1))]) (opT_load_el (S := rBool) (xs := p0s1) (a := x5) (i := s3) (k := 1) (off := 0) (f := fun (x : Bool) => x) ra0 e5 Fld.self ti4 rfl rfl rfl rfl rfl) rfl [.tmp 18] rfl ⟨(hf 2 (mb rfl)), trivial⟩) rfl (fun _ h => lds_one h) (fun _ => rfl)⟩, Plan.goal_run fun vs hf => ⟨wants_none rfl, OpT.conv (OpT.evs (ev' := evL [(1, va1)]) (opT_move (v := va1) rfl rfl) rfl [.tmp 1] rfl ⟨rfl, trivial⟩) rfl (fun _ h => Eq.trans h rfl) (fun _ => rfl)⟩, Plan.goal_run fun vs hf => ⟨wants_none rfl, OpT.conv (OpT.evs (ev' := evL [(5, .int .i64 s3)]) (opT_move (v := .int .i64 s3) rfl rfl) rfl [.tmp 5] rfl ⟨rfl, trivial⟩) rfl (fun _ h => Eq.trans h rfl) (fun _ => rfl)⟩, Plan.goal_run fun vs hf => ⟨wants_none rfl, OpT.conv (OpT.evs (ev' := evL [(20, va1), (21, .int .i64 s3)]) (opT_index_hd (xs := p1s2) (i := s3) (n := 1) (Hd.of_rd ra1) Try.underlying22 ti4 rfl rfl rfl (getI_in e6)) rfl [.tmp 20, .tmp 21] rfl ⟨(hf 4 (mb rfl)), (hf 5 (mb rfl)), trivial⟩) rfl (fun _ h => Eq.trans h rfl) (fun _ => rfl)⟩, Plan.goal_run fun vs hf => ⟨wants_none rfl, OpT.conv (OpT.evs (ev' := evL [(22, pt va1 (s3.toNat * 1))]) (opT_load_el (S := rBool) (xs := p1s2) (a := x6) (i := s3) (k := 1) (off := 0) (f := fun (x : Bool) => x) ra1 e6 Fld.self ti4 rfl rfl rfl rfl rfl) rfl [.tmp 22] rfl ⟨(hf 6 (mb rfl)), trivial⟩) rfl (fun _ h => lds_one h) (fun _ => rfl)⟩, Plan.goal_run fun vs hf => ⟨wants_none rfl, OpT.conv (OpT.evs (ev' := evL [(19, .bool x5), (23, .bool x6)]) (opT_neb (b := x5) (c := x6) Try.underlying4 rfl rfl rfl) rfl [.tmp 19, .tmp 23] rfl ⟨(hf 3 (mb rfl)), (hf 7 (mb rfl)), trivial⟩) rfl (fun _ h => Eq.trans h rfl) (fun _ => rfl)⟩, trivial⟩
          intro vs aq26 wq26 hf haq26 hsq26
          clear haq25 hsq25
          replace haq26 := haq26.pick' (L' := [(0, va0), (1, va1), (12, .int .i64 (p0s1.length : Int)), (13, .int .i64 s3), (24, .bool (x5 != x6))]) ⟨rfl, rfl, rfl, rfl, (congrArg some (show _ = _ from (hf 8 (Nat.le_of_ble_eq_true rfl)))), trivial⟩
          replace hsq26 : St I w0 wq26 [F] := hsq26
          clear hf vs
          refine nrm ?_
          rcases two (x5 != x6) with hb7 | hb7
          · replace hm := ifFe hb7 hm
            refine cnd_false (b := x5 != x6) haq26 rfl rfl hb7 ?_
            refine wp_skip ?_
            refine nrmB ?_
            refine nrm ?_
            refine wp_region_lit ?_
            refine seq_op0 haq26 hsq26 (opT_add (m := s3) (n := 1) rfl rfl rfl) rfl rfl ?_
            rintro u aq27 wq27 hf haq27 hsq27
            obtain rfl := Eq.symm hf
            clear haq26 hsq26 aq26 wq26
            refine seq_op0 haq27 hsq27 (opT_move (v := .int .i64 (IntKind.i64.wrap (s3 + 1))) rfl rfl) rfl rfl ?_
            rintro u aq28 wq28 hf haq28 hsq28
            obtain rfl := Eq.symm hf
            clear haq27 hsq27 aq27 wq27
            refine wpList_nil ?_
            replace haq28 := haq28.pick' (L' := [(0, va0), (1, va1), (12, .int .i64 (p0s1.length : Int)), (13, .int .i64 (IntKind.i64.wrap (s3 + 1)))]) ⟨rfl, rfl, rfl, rfl, trivial⟩
            refine nrm ?_
            exact ⟨_, (Option.some.inj hm).symm, ⟨haq28.pick' ⟨rfl, rfl, rfl, rfl, trivial⟩, St.sel hsq28 1 [0] rfl rfl⟩⟩
          · replace hm := ifTe hb7 hm
            refine cnd_true (b := x5 != x6) haq26 rfl rfl hb7 ?_
            refine wp_seq ?_
            refine wp_region_lit ?_
            refine seq_op0 haq26 hsq26 (opT_assign (v := .bool false) rfl rfl) rfl rfl ?_
            rintro u aq29 wq29 hf haq29 hsq29
            obtain rfl := Eq.symm hf
            clear haq26 hsq26 aq26 wq26
            refine wpList_nil ?_
            replace haq29 := haq29.pick' (L' := [(4, .bool false)]) ⟨rfl, trivial⟩
            refine nrm ?_
            refine wp_ret ?_
            refine blkR ?_
            refine thenR ?_
            refine thenR ?_
            refine blkR ?_
            refine thenR ?_
            refine thenR ?_
            replace hm := loopRet hm hf1 hc1
            obtain rfl := Option.some.inj hm
            exact ret_1 haq29 rfl (res_tmp haq29 rfl) ⟨_, rfl, rfl, _, Hp.le.rfl, St.sel (hsq29) 1 [0] rfl rfl⟩
    · rintro aq30 wq30 ⟨s4, ho1, haq30, hsq30⟩
      replace hm := loopOut ho1 hc1
      clear ho1 hc1 hl1
      refine nrm ?_
      refine wp_seq ?_
      refine wp_region_lit ?_
      refine seq_op0 haq30 hsq30 (opT_assign (v := .bool true) rfl rfl) rfl rfl ?_
      rintro u aq31 wq31 hf haq31 hsq31
      obtain rfl := Eq.symm hf
      clear haq30 hsq30 aq30 wq30
      refine wpList_nil ?_
      replace haq31 := haq31.pick' (L' := [(4, .bool true)]) ⟨rfl, trivial⟩
      refine nrm ?_
      refine wp_ret ?_
      obtain rfl := Option.some.inj hm
      exact ret_1 haq31 rfl (res_tmp haq31 rfl) ⟨_, rfl, rfl, _, Hp.le.rfl, St.sel (hsq31) 1 [0] rfl rfl⟩
  · replace hm := ifTe hb1 hm
    refine cnd_true (b := (p0s1.length : Int) != (p1s2.length : Int)) haq6 rfl rfl hb1 ?_
    refine wp_seq ?_
    refine wp_region_lit ?_
    refine seq_op0 haq6 hsq6 (opT_assign (v := .bool false) rfl rfl) rfl rfl ?_
    rintro u aq32 wq32 hf haq32 hsq32
    obtain rfl := Eq.symm hf
    clear haq6 hsq6 aq6 wq6
    refine wpList_nil ?_
    replace haq32 := haq32.pick' (L' := [(4, .bool false)]) ⟨rfl, trivial⟩
    refine nrm ?_
    refine wp_ret ?_
    refine thenR ?_
    obtain rfl := Option.some.inj hm
    exact ret_1 haq32 rfl (res_tmp haq32 rfl) ⟨_, rfl, rfl, _, Hp.le.rfl, St.sel (hsq32) 1 [0] rfl rfl⟩
set_option maxHeartbeats 8000000 in
theorem c_w_eqBoolS (p0a : List Bool) (p1b : List Bool) (r : Bool) (hm : m_w_eqBoolS p0a p1b = some r) {I : Hp} {w0 : World} (va0 : Value) (va1 : Value) (ra0 : (rSlice 4 rBool).rd I [va0] p0a) (ra1 : (rSlice 4 rBool).rd I [va1] p1b) : Con Try.prog 53 #[va0, va1] I w0 [] (fun v => v = .bool r) (fun v => []) := by
  refine con_of_wp (n := 26) [(0, va0), (1, va1)] Try.func53 rfl rfl (Nat.le_of_ble_eq_true rfl) (args_all ⟨rfl, rfl, trivial⟩) (fun F w a ha hs => ?_) (fun v => trivial)
  unfold m_w_eqBoolS at hm
  refine wp_seq ?_
  refine wp_region_lit ?_
  refine seq_op0 ha hs (opT_assign (v := .bool false) rfl rfl) rfl rfl ?_
  rintro u aq1 wq1 hf haq1 hsq1
  obtain rfl := Eq.symm hf
  clear ha hs a w
  refine wpList_nil ?_
  replace haq1 := haq1.pick' (L' := [(0, va0), (1, va1)]) ⟨rfl, rfl, trivial⟩
  refine nrm ?_
  refine wp_seq ?_
  refine wp_seq ?_
  refine wp_region_lit ?_
  refine seq_op0 haq1 hsq1 (opT_move (v := va0) rfl rfl) rfl rfl ?_
  rintro u aq2 wq2 hf haq2 hsq2
  obtain rfl := Eq.symm hf
  clear haq1 hsq1 aq1 wq1
  refine seq_op0 haq2 hsq2 (opT_len_hd (v := va0) (n := p0a.length) (Hd.of_rd ra0) Try.underlying22 rfl rfl) rfl rfl ?_
  rintro u aq3 wq3 hf haq3 hsq3
  obtain rfl := Eq.symm hf
  clear haq2 hsq2 aq2 wq2
  refine seq_op0 haq3 hsq3 (opT_move (v := va1) rfl rfl) rfl rfl ?_
  rintro u aq4 wq4 hf haq4 hsq4
  obtain rfl := Eq.symm hf
  clear haq3 hsq3 aq3 wq3
  refine seq_op0 haq4 hsq4 (opT_len_hd (v := va1) (n := p1b.length) (Hd.of_rd ra1) Try.underlying22 rfl rfl) rfl rfl ?_
  rintro u aq5 wq5 hf haq5 hsq5
  obtain rfl := Eq.symm hf
  clear haq4 hsq4 aq4 wq4
  refine seq_op0 haq5 hsq5 (opT_cmp (k := .i64) (m := (p0a.length : Int)) (n := (p1b.length : Int)) (c := (p0a.length : Int) != (p1b.length : Int)) rfl rfl rfl rfl rfl) rfl rfl ?_
  rintro u aq6 wq6 hf haq6 hsq6
  obtain rfl := Eq.symm hf
  clear haq5 hsq5 aq5 wq5
  refine wpList_nil ?_
  replace haq6 := haq6.pick' (L' := [(0, va0), (1, va1), (10, .bool ((p0a.length : Int) != (p1b.length : Int)))]) ⟨rfl, rfl, rfl, trivial⟩
  refine nrm ?_
  rcases two ((p0a.length : Int) != (p1b.length : Int)) with hb1 | hb1
  · replace hm := ifFe hb1 hm
    refine cnd_false (b := (p0a.length : Int) != (p1b.length : Int)) haq6 rfl rfl hb1 ?_
    refine wp_skip ?_
    refine nrm ?_
    refine wp_seq ?_
    refine wp_seq ?_
    refine wp_region_lit ?_
    refine seq_op0 haq6 hsq6 (opT_assign (v := .int .i64 0) rfl rfl) rfl rfl ?_
    rintro u aq7 wq7 hf haq7 hsq7
    obtain rfl := Eq.symm hf
    clear haq6 hsq6 aq6 wq6
    refine wpList_nil ?_
    replace haq7 := haq7.pick' (L' := [(0, va0), (1, va1), (5, .int .i64 0)]) ⟨rfl, rfl, rfl, trivial⟩
    refine nrm ?_
    obtain ⟨o1, hl1, hc1⟩ := bindL_some hm
    refine wp_cut (fun a w => ∃ s4 : Int, o1 = .brk s4 ∧ Agr 26 a [] ∧ St I w0 w [F]) ?_ ?_
    · refine wp_block (wp_loopM (R := Bool) (S := Int) (fun s3 a w => Agr 26 a [(0, va0), (1, va1), (5, .int .i64 s3)] ∧ St I w0 w [F]) hl1 ?_ ?_)
      · exact ⟨haq7.pick' ⟨rfl, rfl, rfl, trivial⟩, St.sel hsq7 1 [0] rfl rfl⟩
      · rintro s3 o2 hm hf1 aq24 wq24 ⟨haq24, hsq24⟩
        unfold m_w_eqBoolS_l0 at hm
        refine wp_seq ?_
        refine wp_seq ?_
        refine wp_region_lit ?_
        refine seq_op0 haq24 hsq24 (opT_move (v := .int .i64 s3) rfl rfl) rfl rfl ?_
        rintro u aq25 wq25 hf haq25 hsq25
        obtain rfl := Eq.symm hf
        clear haq24 hsq24 aq24 wq24
        refine seq_op0 haq25 hsq25 (opT_move (v := va0) rfl rfl) rfl rfl ?_
        rintro u aq26 wq26 hf haq26 hsq26
        obtain rfl := Eq.symm hf
        clear haq25 hsq25 aq25 wq25
        refine seq_op0 haq26 hsq26 (opT_len_hd (v := va0) (n := p0a.length) (Hd.of_rd ra0) Try.underlying22 rfl rfl) rfl rfl ?_
        rintro u aq27 wq27 hf haq27 hsq27
        obtain rfl := Eq.symm hf
        clear haq26 hsq26 aq26 wq26
        refine seq_op0 haq27 hsq27 (opT_cmp (k := .i64) (m := s3) (n := (p0a.length : Int)) (c := decide (s3 < (p0a.length : Int))) rfl rfl rfl rfl rfl) rfl rfl ?_
        rintro u aq28 wq28 hf haq28 hsq28
        obtain rfl := Eq.symm hf
        clear haq27 hsq27 aq27 wq27
        refine wpList_nil ?_
        replace haq28 := haq28.pick' (L' := [(0, va0), (1, va1), (5, .int .i64 s3), (14, .bool (decide (s3 < (p0a.length : Int))))]) ⟨rfl, rfl, rfl, rfl, trivial⟩
        refine nrm ?_
        rcases two (decide (s3 < (p0a.length : Int))) with hb6 | hb6
        · replace hm := ifFe hb6 hm
          refine cnd_false (b := decide (s3 < (p0a.length : Int))) haq28 rfl rfl hb6 ?_
          refine wp_exit ?_
          refine thenX ?_
          refine thenX ?_
          refine ex_in ?_
          refine nrm ?_
          exact ⟨_, loopBrk hm hf1, ⟨haq28.pick' trivial, St.sel hsq28 1 [0] rfl rfl⟩⟩
        · replace hm := ifTe hb6 hm
          refine cnd_true (b := decide (s3 < (p0a.length : Int))) haq28 rfl rfl hb6 ?_
          refine wp_skip ?_
          refine nrm ?_
          refine wp_seq ?_
          refine wp_block ?_
          refine wp_seq ?_
          obtain ⟨x5, e5, hm⟩ := bind_some hm
          obtain ⟨x6, e6, hm⟩ := bind_some hm
          refine wp_draw (L := [(0, va0), (1, va1), (5, .int .i64 s3), (14, .bool (decide (s3 < (p0a.length : Int))))]) (C := [F]) { ops := [⟨[], [], [], [0], fun | [xo0] => xo0 = va0 | _ => True, [(0, none)]⟩, ⟨[], [], [], [1], fun | [xo1] => xo1 = .int .i64 s3 | _ => True, [(5, none)]⟩, ⟨[], [], [], [2], fun | [xo2] => xo2 = pt va0 (s3.toNat * 1) | _ => True, [(17, some 0), (18, some 1)]⟩, ⟨[], [], [], [3], fun | [xo3] => xo3 = .bool x5 | _ => True, [(19, some 2)]⟩, ⟨[], [], [], [4], fun | [xo4] => xo4 = va1 | _ => True, [(1, none)]⟩, ⟨[], [], [], [5], fun | [xo5] => xo5 = .int .i64 s3 | _ => True, [(5, none)]⟩, ⟨[], [], [], [6], fun | [xo6] => xo6 = pt va1 (s3.toNat * 1) | _ => True, [(21, some 4), (22, some 5)]⟩, ⟨[], [], [], [7], fun | [xo7] => xo7 = .bool x6 | _ => True, [(23, some 6)]⟩, ⟨[], [], [], [8], fun | [xo8] => xo8 = .bool (x5 != x6) | _ => True, [(20, some 3), (24, some 7)]⟩], res := [], base := [], pre := [[], [], [0, 1], [0, 1, 2], [], [], [4, 5], [4, 5, 6], [0, 1, 2, 3, 4, 5, 6, 7]], fin := [(0, none), (1, none), (5, none), (25, some 8)], left := [] } (by kernel_rfl) haq28 hsq28 (perm_sel [0] (m := 1) rfl rfl) (by kernel_rfl) (by kernel_rfl) ?_ ?_
          · exact ⟨Plan.goal_run fun vs hf => ⟨wants_none rfl, OpT.conv (OpT.evs (ev' := evL [(0, va0)]) (opT_move (v := va0) rfl rfl) rfl [.tmp 0] rfl ⟨rfl, trivial⟩) rfl (fun _ h => Eq.trans h rfl) (fun _ => rfl)⟩, Plan.goal_run fun vs hf => ⟨wants_none rfl, OpT.conv (OpT.evs (ev' := evL [(5, .int .i64 s3)]) (opT_move (v := .int .i64 s3) rfl rfl) rfl [.tmp 5] rfl ⟨rfl, trivial⟩) rfl (fun _ h => Eq.trans h rfl) (fun _ => rfl)⟩, Plan.goal_run fun vs hf => ⟨wants_none rfl, OpT.conv (OpT.evs (ev' := evL [(17, va0), (18, .int .i64 s3)]) (opT_index_hd (xs := p0a) (i := s3) (n := 1) (Hd.of_rd ra0) Try.underlying22 ti4 rfl rfl rfl (getI_in e5)) rfl [.tmp 17, .tmp 18] rfl ⟨(hf 0 (mb rfl)), (hf 1 (mb rfl)), trivial⟩) rfl (fun _ h => Eq.trans h rfl) (fun _ => rfl)⟩, Plan.goal_run fun vs hf => ⟨wants_none rfl, OpT.conv (OpT.evs (ev' := evL [(19, pt va0 (s3.toNat * 1))]) (opT_load_el (S := rBool) (xs := p0a) (a := x5) (i := s3) (k := 1) (off := 0) (f := fun (x : Bool) => x) ra0 e5 Fld.self ti4 rfl rfl rfl rfl rfl) rfl [.tmp 19] rfl ⟨(hf 2 (mb rfl)), trivial⟩) rfl (fun _ h => lds_one h) (fun _ => rfl)⟩, Plan.goal_run fun vs hf => ⟨wants_none rfl, OpT.conv (OpT.evs (ev' := evL [(1, va1)]) (opT_move (v := va1) rfl rfl) rfl [.tmp 1] rfl ⟨rfl, trivial⟩) rfl (fun _ h => Eq.trans h rfl) (fun _ => rfl)⟩, Plan.goal_run fun vs hf => ⟨wants_none rfl, OpT.conv (OpT.evs (ev' := evL [(5, .int .i64 s3)]) (opT_move (v := .int .i64 s3) rfl rfl) rfl [.tmp 5] rfl ⟨rfl, trivial⟩) rfl (fun _ h => Eq.trans h rfl) (fun _ => rfl)⟩, Plan.goal_run fun vs hf => ⟨wants_none rfl, OpT.conv (OpT.evs (ev' := evL [(21, va1), (22, .int .i64 s3)]) (opT_index_hd (xs := p1b) (i := s3) (n := 1) (Hd.of_rd ra1) Try.underlying22 ti4 rfl rfl rfl (getI_in e6)) rfl [.tmp 21, .tmp 22] rfl ⟨(hf 4 (mb rfl)), (hf 5 (mb rfl)), trivial⟩) rfl (fun _ h => Eq.trans h rfl) (fun _ => rfl)⟩, Plan.goal_run fun vs hf => ⟨wants_none rfl, OpT.conv (OpT.evs (ev' := evL [(23, pt va1 (s3.toNat * 1))]) (opT_load_el (S := rBool) (xs := p1b) (a := x6) (i := s3) (k := 1) (off := 0) (f := fun (x : Bool) => x) ra1 e6 Fld.self ti4 rfl rfl rfl rfl rfl) rfl [.tmp 23] rfl ⟨(hf 6 (mb rfl)), trivial⟩) rfl (fun _ h => lds_one h) (fun _ => rfl)⟩, Plan.goal_run fun vs hf => ⟨wants_none rfl, OpT.conv (OpT.evs (ev' := evL [(20, .bool x5), (24, .bool x6)]) (opT_neb (b := x5) (c := x6) Try.underlying4 rfl rfl rfl) rfl [.tmp 20, .tmp 24] rfl ⟨(hf 3 (mb rfl)), (hf 7 (mb rfl)), trivial⟩) rfl (fun _ h => Eq.trans h rfl) (fun _ => rfl)⟩, trivial⟩
          intro vs aq29 wq29 hf haq29 hsq29
          clear haq28 hsq28
          replace haq29 := haq29.pick' (L' := [(0, va0), (1, va1), (5, .int .i64 s3), (25, .bool (x5 != x6))]) ⟨rfl, rfl, rfl, (congrArg some (show _ = _ from (hf 8 (Nat.le_of_ble_eq_true rfl)))), trivial⟩
          replace hsq29 : St I w0 wq29 [F] := hsq29
          clear hf vs
          refine nrm ?_
          rcases two (x5 != x6) with hb7 | hb7
          · replace hm := ifFe hb7 hm
            refine cnd_false (b := x5 != x6) haq29 rfl rfl hb7 ?_
            refine wp_skip ?_
            refine nrmB ?_
            refine nrm ?_
            refine wp_region_lit ?_
            refine seq_op0 haq29 hsq29 (opT_move (v := .int .i64 s3) rfl rfl) rfl rfl ?_
            rintro u aq30 wq30 hf haq30 hsq30
            obtain rfl := Eq.symm hf
            clear haq29 hsq29 aq29 wq29
            refine seq_op0 haq30 hsq30 (opT_add (m := s3) (n := 1) rfl rfl rfl) rfl rfl ?_
            rintro u aq31 wq31 hf haq31 hsq31
            obtain rfl := Eq.symm hf
            clear haq30 hsq30 aq30 wq30
            refine seq_op0 haq31 hsq31 (opT_assign (v := .int .i64 (IntKind.i64.wrap (s3 + 1))) rfl rfl) rfl rfl ?_
            rintro u aq32 wq32 hf haq32 hsq32
            obtain rfl := Eq.symm hf
            clear haq31 hsq31 aq31 wq31
            refine wpList_nil ?_
            replace haq32 := haq32.pick' (L' := [(0, va0), (1, va1), (5, .int .i64 (IntKind.i64.wrap (s3 + 1)))]) ⟨rfl, rfl, rfl, trivial⟩
            refine nrm ?_
            exact ⟨_, (Option.some.inj hm).symm, ⟨haq32.pick' ⟨rfl, rfl, rfl, trivial⟩, St.sel hsq32 1 [0] rfl rfl⟩⟩
          · replace hm := ifTe hb7 hm
            refine cnd_true (b := x5 != x6) haq29 rfl rfl hb7 ?_
            refine wp_seq ?_
            refine wp_region_lit ?_
            refine seq_op0 haq29 hsq29 (opT_assign (v := .bool false) rfl rfl) rfl rfl ?_
            rintro u aq33 wq33 hf haq33 hsq33
            obtain rfl := Eq.symm hf
            clear haq29 hsq29 aq29 wq29
            refine wpList_nil ?_
            replace haq33 := haq33.pick' (L' := [(4, .bool false)]) ⟨rfl, trivial⟩
            refine nrm ?_
            refine wp_ret ?_
            refine blkR ?_
            refine thenR ?_
            refine thenR ?_
            refine blkR ?_
            refine thenR ?_
            refine thenR ?_
            replace hm := loopRet hm hf1 hc1
            obtain rfl := Option.some.inj hm
            exact ret_1 haq33 rfl (res_tmp haq33 rfl) ⟨_, rfl, rfl, _, Hp.le.rfl, St.sel (hsq33) 1 [0] rfl rfl⟩
    · rintro aq34 wq34 ⟨s4, ho1, haq34, hsq34⟩
      replace hm := loopOut ho1 hc1
      clear ho1 hc1 hl1
      refine nrm ?_
      refine wp_seq ?_
      refine wp_region_lit ?_
      refine seq_op0 haq34 hsq34 (opT_assign (v := .bool true) rfl rfl) rfl rfl ?_
      rintro u aq35 wq35 hf haq35 hsq35
      obtain rfl := Eq.symm hf
      clear haq34 hsq34 aq34 wq34
      refine wpList_nil ?_
      replace haq35 := haq35.pick' (L' := [(4, .bool true)]) ⟨rfl, trivial⟩
      refine nrm ?_
      refine wp_ret ?_
      obtain rfl := Option.some.inj hm
      exact ret_1 haq35 rfl (res_tmp haq35 rfl) ⟨_, rfl, rfl, _, Hp.le.rfl, St.sel (hsq35) 1 [0] rfl rfl⟩
  · replace hm := ifTe hb1 hm
    refine cnd_true (b := (p0a.length : Int) != (p1b.length : Int)) haq6 rfl rfl hb1 ?_
    refine wp_seq ?_
    refine wp_region_lit ?_
    refine seq_op0 haq6 hsq6 (opT_assign (v := .bool false) rfl rfl) rfl rfl ?_
    rintro u aq36 wq36 hf haq36 hsq36
    obtain rfl := Eq.symm hf
    clear haq6 hsq6 aq6 wq6
    refine wpList_nil ?_
    replace haq36 := haq36.pick' (L' := [(4, .bool false)]) ⟨rfl, trivial⟩
    refine nrm ?_
    refine wp_ret ?_
    refine thenR ?_
    obtain rfl := Option.some.inj hm
    exact ret_1 haq36 rfl (res_tmp haq36 rfl) ⟨_, rfl, rfl, _, Hp.le.rfl, St.sel (hsq36) 1 [0] rfl rfl⟩
set_option maxHeartbeats 8000000 in
theorem c_g_slices_IndexFunc_S_S_int_S_int (p0s : List (List Int)) (p1f : (List Int) → Option Bool) (r : Int) (hm : m_g_slices_IndexFunc_S_S_int_S_int p0s p1f = some r) {I : Hp} {w0 : World} (va0 : Value) (va1 : Value) (ra0 : (rSlice 34 (rSlice 3 rInt)).rd I [va0] p0s) (ra1 : fn203 w0 I va1 p1f) : Con Try.prog 172 #[va0, va1] I w0 [] (fun v => v = .int .i64 r) (fun v => []) := by
  refine con_of_wp (n := 19) [(0, va0), (1, va1)] Try.func172 rfl rfl (Nat.le_of_ble_eq_true rfl) (args_all ⟨rfl, rfl, trivial⟩) (fun F w a ha hs => ?_) (fun v => trivial)
  unfold m_g_slices_IndexFunc_S_S_int_S_int at hm
  refine wp_seq ?_
  refine wp_region_lit ?_
  refine seq_op0 ha hs (opT_assign (v := .int .i64 0) rfl rfl) rfl rfl ?_
  rintro u aq1 wq1 hf haq1 hsq1
  obtain rfl := Eq.symm hf
  clear ha hs a w
  refine wpList_nil ?_
  replace haq1 := haq1.pick' (L' := [(0, va0), (1, va1)]) ⟨rfl, rfl, trivial⟩
  refine nrm ?_
  refine wp_seq ?_
  refine wp_seq ?_
  refine wp_region_lit ?_
  refine seq_op0 haq1 hsq1 (opT_move (v := va0) rfl rfl) rfl rfl ?_
  rintro u aq2 wq2 hf haq2 hsq2
  obtain rfl := Eq.symm hf
  clear haq1 hsq1 aq1 wq1
  refine seq_op0 haq2 hsq2 (opT_len_hd (v := va0) (n := p0s.length) (Hd.of_rd ra0) Try.underlying23 rfl rfl) rfl rfl ?_
  rintro u aq3 wq3 hf haq3 hsq3
  obtain rfl := Eq.symm hf
  clear haq2 hsq2 aq2 wq2
  refine seq_op0 haq3 hsq3 (opT_move (v := .int .i64 0) rfl rfl) rfl rfl ?_
  rintro u aq4 wq4 hf haq4 hsq4
  obtain rfl := Eq.symm hf
  clear haq3 hsq3 aq3 wq3
  refine wpList_nil ?_
  replace haq4 := haq4.pick' (L' := [(0, va0), (1, va1), (7, .int .i64 (p0s.length : Int)), (8, .int .i64 0)]) ⟨rfl, rfl, rfl, rfl, trivial⟩
  refine nrm ?_
  obtain ⟨o1, hl1, hc1⟩ := bindL_some hm
  refine wp_cut (fun a w => ∃ s4 : Int, o1 = .brk s4 ∧ Agr 19 a [] ∧ St I w0 w [F]) ?_ ?_
  · refine wp_block (wp_loopM (R := Int) (S := Int) (fun s3 a w => Agr 19 a [(0, va0), (1, va1), (7, .int .i64 (p0s.length : Int)), (8, .int .i64 s3)] ∧ St I w0 w [F]) hl1 ?_ ?_)
    · exact ⟨haq4.pick' ⟨rfl, rfl, rfl, rfl, trivial⟩, St.sel hsq4 1 [0] rfl rfl⟩
    · rintro s3 o2 hm hf1 aq31 wq31 ⟨haq31, hsq31⟩
      unfold m_g_slices_IndexFunc_S_S_int_S_int_l0 at hm
      refine wp_seq ?_
      refine wp_region_lit ?_
      refine seq_op0 haq31 hsq31 (opT_cmp (k := .i64) (m := s3) (n := (p0s.length : Int)) (c := decide (s3 < (p0s.length : Int))) rfl rfl rfl rfl rfl) rfl rfl ?_
      rintro u aq32 wq32 hf haq32 hsq32
      obtain rfl := Eq.symm hf
      clear haq31 hsq31 aq31 wq31
      refine wpList_nil ?_
      replace haq32 := haq32.pick' (L' := [(0, va0), (1, va1), (7, .int .i64 (p0s.length : Int)), (8, .int .i64 s3), (9, .bool (decide (s3 < (p0s.length : Int))))]) ⟨rfl, rfl, rfl, rfl, rfl, trivial⟩
      refine nrm ?_
      refine wp_seq ?_
      rcases two (decide (s3 < (p0s.length : Int))) with hb5 | hb5
      · replace hm := ifFe hb5 hm
        refine cnd_false (b := decide (s3 < (p0s.length : Int))) haq32 rfl rfl hb5 ?_
        refine wp_exit ?_
        refine thenX ?_
        refine thenX ?_
        refine ex_in ?_
        refine nrm ?_
        exact ⟨_, loopBrk hm hf1, ⟨haq32.pick' trivial, St.sel hsq32 1 [0] rfl rfl⟩⟩
      · replace hm := ifTe hb5 hm
        refine cnd_true (b := decide (s3 < (p0s.length : Int))) haq32 rfl rfl hb5 ?_
        refine wp_skip ?_
        refine nrm ?_
        refine wp_seq ?_
        refine wp_block ?_
        refine wp_seq ?_
        refine wp_region_lit ?_
        refine seq_op0 haq32 hsq32 (opT_move (v := .int .i64 s3) rfl rfl) rfl rfl ?_
        rintro u aq33 wq33 hf haq33 hsq33
        obtain rfl := Eq.symm hf
        clear haq32 hsq32 aq32 wq32
        refine seq_op0 haq33 hsq33 (opT_assign (v := .int .i64 s3) rfl rfl) rfl rfl ?_
        rintro u aq34 wq34 hf haq34 hsq34
        obtain rfl := Eq.symm hf
        clear haq33 hsq33 aq33 wq33
        refine wpList_nil ?_
        replace haq34 := haq34.pick' (L' := [(0, va0), (1, va1), (5, .int .i64 s3), (7, .int .i64 (p0s.length : Int)), (8, .int .i64 s3)]) ⟨rfl, rfl, rfl, rfl, rfl, trivial⟩
        refine nrm ?_
        refine wp_seq ?_
        refine wp_region_lit ?_
        refine seq_op0 haq34 hsq34 (opT_move (v := va1) rfl rfl) rfl rfl ?_
        rintro u aq35 wq35 hf haq35 hsq35
        obtain rfl := Eq.symm hf
        clear haq34 hsq34 aq34 wq34
        refine seq_op0 haq35 hsq35 (opT_move (v := va0) rfl rfl) rfl rfl ?_
        rintro u aq36 wq36 hf haq36 hsq36
        obtain rfl := Eq.symm hf
        clear haq35 hsq35 aq35 wq35
        refine seq_op0 haq36 hsq36 (opT_move (v := .int .i64 s3) rfl rfl) rfl rfl ?_
        rintro u aq37 wq37 hf haq37 hsq37
        obtain rfl := Eq.symm hf
        clear haq36 hsq36 aq36 wq36
        obtain ⟨x3, e5, hm⟩ := bind_some hm
        refine seq_op0 haq37 hsq37 (opT_index_hd (xs := p0s) (i := s3) (n := 1) (Hd.of_rd ra0) Try.underlying23 ti34 rfl rfl rfl (getI_in e5)) rfl rfl ?_
        rintro u aq38 wq38 hf haq38 hsq38
        obtain rfl := Eq.symm hf
        clear haq37 hsq37 aq37 wq37
        refine seq_op0 haq38 hsq38 (opT_load_el (S := rSlice 3 rInt) (xs := p0s) (a := x3) (i := s3) (k := 1) (off := 0) (f := fun (x : List Int) => x) ra0 e5 Fld.self ti34 rfl rfl rfl rfl rfl) rfl rfl ?_
        rintro v3 aq39 wq39 hf haq39 hsq39
        have r5 := lds_sl hf
        clear hf
        clear haq38 hsq38 aq38 wq38
        obtain ⟨r6, e6, hm⟩ := bind_some hm
        refine seq_op0 haq39 hsq39 (opT_call_clo (v := va1) (args := [v3]) (ra1.2 _ Hp.le.rfl x3 _ e6 v3 r5) rfl rfl rfl) rfl rfl ?_
        rintro u aq40 wq40 hf haq40 hsq40
        obtain rfl := Eq.symm hf
        clear haq39 hsq39 aq39 wq39
        refine wpList_nil ?_
        replace haq40 := haq40.pick' (L' := [(0, va0), (1, va1), (5, .int .i64 s3), (7, .int .i64 (p0s.length : Int)), (8, .int .i64 s3), (16, .bool r6)]) ⟨rfl, rfl, rfl, rfl, rfl, rfl, trivial⟩
        refine nrm ?_
        rcases two (r6) with hb6 | hb6
        · replace hm := ifFe hb6 hm
          refine cnd_false (b := r6) haq40 rfl rfl hb6 ?_
          refine wp_skip ?_
          refine nrmB ?_
          refine nrm ?_
          refine wp_region_lit ?_
          refine seq_op0 haq40 hsq40 (opT_add (m := s3) (n := 1) rfl rfl rfl) rfl rfl ?_
          rintro u aq41 wq41 hf haq41 hsq41
          obtain rfl := Eq.symm hf
          clear haq40 hsq40 aq40 wq40
          refine seq_op0 haq41 hsq41 (opT_move (v := .int .i64 (IntKind.i64.wrap (s3 + 1))) rfl rfl) rfl rfl ?_
          rintro u aq42 wq42 hf haq42 hsq42
          obtain rfl := Eq.symm hf
          clear haq41 hsq41 aq41 wq41
          refine wpList_nil ?_
          replace haq42 := haq42.pick' (L' := [(0, va0), (1, va1), (7, .int .i64 (p0s.length : Int)), (8, .int .i64 (IntKind.i64.wrap (s3 + 1)))]) ⟨rfl, rfl, rfl, rfl, trivial⟩
          refine nrm ?_
          exact ⟨_, (Option.some.inj hm).symm, ⟨haq42.pick' ⟨rfl, rfl, rfl, rfl, trivial⟩, St.sel hsq42 1 [0] rfl rfl⟩⟩
        · replace hm := ifTe hb6 hm
          refine cnd_true (b := r6) haq40 rfl rfl hb6 ?_
          refine wp_seq ?_
          refine wp_region_lit ?_
          refine seq_op0 haq40 hsq40 (opT_move (v := .int .i64 s3) rfl rfl) rfl rfl ?_
          rintro u aq43 wq43 hf haq43 hsq43
          obtain rfl := Eq.symm hf
          clear haq40 hsq40 aq40 wq40
          refine seq_op0 haq43 hsq43 (opT_assign (v := .int .i64 s3) rfl rfl) rfl rfl ?_
          rintro u aq44 wq44 hf haq44 hsq44
          obtain rfl := Eq.symm hf
          clear haq43 hsq43 aq43 wq43
          refine wpList_nil ?_
          replace haq44 := haq44.pick' (L' := [(4, .int .i64 s3)]) ⟨rfl, trivial⟩
          refine nrm ?_
          refine wp_ret ?_
          refine blkR ?_
          refine thenR ?_
          refine thenR ?_
          refine blkR ?_
          refine thenR ?_
          refine thenR ?_
          replace hm := loopRet hm hf1 hc1
          obtain rfl := Option.some.inj hm
          exact ret_1 haq44 rfl (res_tmp haq44 rfl) ⟨_, rfl, rfl, _, Hp.le.rfl, St.sel (hsq44) 1 [0] rfl rfl⟩
  · rintro aq45 wq45 ⟨s4, ho1, haq45, hsq45⟩
    replace hm := loopOut ho1 hc1
    clear ho1 hc1 hl1
    refine nrm ?_
    refine wp_seq ?_
    refine wp_region_lit ?_
    refine seq_op0 haq45 hsq45 (opT_assign (v := .int .i64 (-1)) rfl rfl) rfl rfl ?_
    rintro u aq46 wq46 hf haq46 hsq46
    obtain rfl := Eq.symm hf
    clear haq45 hsq45 aq45 wq45
    refine wpList_nil ?_
    replace haq46 := haq46.pick' (L' := [(4, .int .i64 (-1))]) ⟨rfl, trivial⟩
    refine nrm ?_
    refine wp_ret ?_
    obtain rfl := Option.some.inj hm
    exact ret_1 haq46 rfl (res_tmp haq46 rfl) ⟨_, rfl, rfl, _, Hp.le.rfl, St.sel (hsq46) 1 [0] rfl rfl⟩
set_option maxHeartbeats 8000000 in
theorem c_w_szBoolS (p0a : List Bool) (p1left : Int) (r : Int) (hm : m_w_szBoolS p0a p1left = some r) {I : Hp} {w0 : World} (va0 : Value) (ra0 : (rSlice 4 rBool).rd I [va0] p0a) : Con Try.prog 44 #[va0, .int .i64 p1left] I w0 [] (fun v => v = .int .i64 r) (fun v => []) := by
  refine con_of_wp (n := 12) [(0, va0), (1, .int .i64 p1left)] Try.func44 rfl rfl (Nat.le_of_ble_eq_true rfl) (args_all ⟨rfl, rfl, trivial⟩) (fun F w a ha hs => ?_) (fun v => trivial)
  unfold m_w_szBoolS at hm
  refine wp_seq ?_
  refine wp_region_lit ?_
  refine seq_op0 ha hs (opT_assign (v := .int .i64 0) rfl rfl) rfl rfl ?_
  rintro u aq1 wq1 hf haq1 hsq1
  obtain rfl := Eq.symm hf
  clear ha hs a w
  refine wpList_nil ?_
  replace haq1 := haq1.pick' (L' := [(0, va0), (1, .int .i64 p1left)]) ⟨rfl, rfl, trivial⟩
  refine nrm ?_
  refine wp_seq ?_
  refine wp_region_lit ?_
  refine seq_op0 haq1 hsq1 (opT_move (v := .int .i64 p1left) rfl rfl) rfl rfl ?_
  rintro u aq2 wq2 hf haq2 hsq2
  obtain rfl := Eq.symm hf
  clear haq1 hsq1 aq1 wq1
  refine seq_op0 haq2 hsq2 (opT_move (v := va0) rfl rfl) rfl rfl ?_
  rintro u aq3 wq3 hf haq3 hsq3
  obtain rfl := Eq.symm hf
  clear haq2 hsq2 aq2 wq2
  refine seq_op0 haq3 hsq3 (opT_len_hd (v := va0) (n := p0a.length) (Hd.of_rd ra0) Try.underlying22 rfl rfl) rfl rfl ?_
  rintro u aq4 wq4 hf haq4 hsq4
  obtain rfl := Eq.symm hf
  clear haq3 hsq3 aq3 wq3
  refine seq_op0 haq4 hsq4 (opT_sub (m := p1left) (n := (p0a.length : Int)) rfl rfl rfl) rfl rfl ?_
  rintro u aq5 wq5 hf haq5 hsq5
  obtain rfl := Eq.symm hf
  clear haq4 hsq4 aq4 wq4
  refine seq_op0 haq5 hsq5 (opT_assign (v := .int .i64 (IntKind.i64.wrap (p1left - (p0a.length : Int)))) rfl rfl) rfl rfl ?_
  rintro u aq6 wq6 hf haq6 hsq6
  obtain rfl := Eq.symm hf
  clear haq5 hsq5 aq5 wq5
  refine wpList_nil ?_
  replace haq6 := haq6.pick' (L' := [(1, .int .i64 (IntKind.i64.wrap (p1left - (p0a.length : Int))))]) ⟨rfl, trivial⟩
  refine nrm ?_
  refine wp_seq ?_
  refine wp_seq ?_
  refine wp_region_lit ?_
  refine seq_op0 haq6 hsq6 (opT_move (v := .int .i64 (IntKind.i64.wrap (p1left - (p0a.length : Int)))) rfl rfl) rfl rfl ?_
  rintro u aq7 wq7 hf haq7 hsq7
  obtain rfl := Eq.symm hf
  clear haq6 hsq6 aq6 wq6
  refine seq_op0 haq7 hsq7 (opT_cmp (k := .i64) (m := IntKind.i64.wrap (p1left - (p0a.length : Int))) (n := 0) (c := decide (IntKind.i64.wrap (p1left - (p0a.length : Int)) < 0)) rfl rfl rfl rfl rfl) rfl rfl ?_
  rintro u aq8 wq8 hf haq8 hsq8
  obtain rfl := Eq.symm hf
  clear haq7 hsq7 aq7 wq7
  refine wpList_nil ?_
  replace haq8 := haq8.pick' (L' := [(1, .int .i64 (IntKind.i64.wrap (p1left - (p0a.length : Int)))), (10, .bool (decide (IntKind.i64.wrap (p1left - (p0a.length : Int)) < 0)))]) ⟨rfl, rfl, trivial⟩
  refine nrm ?_
  rcases two (decide (IntKind.i64.wrap (p1left - (p0a.length : Int)) < 0)) with hb1 | hb1
  · replace hm := ifFe hb1 hm
    refine cnd_false (b := decide (IntKind.i64.wrap (p1left - (p0a.length : Int)) < 0)) haq8 rfl rfl hb1 ?_
    refine wp_skip ?_
    refine nrm ?_
    refine wp_seq ?_
    refine wp_region_lit ?_
    refine seq_op0 haq8 hsq8 (opT_move (v := .int .i64 (IntKind.i64.wrap (p1left - (p0a.length : Int)))) rfl rfl) rfl rfl ?_
    rintro u aq9 wq9 hf haq9 hsq9
    obtain rfl := Eq.symm hf
    clear haq8 hsq8 aq8 wq8
    refine seq_op0 haq9 hsq9 (opT_assign (v := .int .i64 (IntKind.i64.wrap (p1left - (p0a.length : Int)))) rfl rfl) rfl rfl ?_
    rintro u aq10 wq10 hf haq10 hsq10
    obtain rfl := Eq.symm hf
    clear haq9 hsq9 aq9 wq9
    refine wpList_nil ?_
    replace haq10 := haq10.pick' (L' := [(4, .int .i64 (IntKind.i64.wrap (p1left - (p0a.length : Int))))]) ⟨rfl, trivial⟩
    refine nrm ?_
    refine wp_ret ?_
    obtain rfl := Option.some.inj hm
    exact ret_1 haq10 rfl (res_tmp haq10 rfl) ⟨_, rfl, rfl, _, Hp.le.rfl, St.sel (hsq10) 1 [0] rfl rfl⟩
  · replace hm := ifTe hb1 hm
    refine cnd_true (b := decide (IntKind.i64.wrap (p1left - (p0a.length : Int)) < 0)) haq8 rfl rfl hb1 ?_
    refine wp_seq ?_
    refine wp_region_lit ?_
    refine seq_op0 haq8 hsq8 (opT_assign (v := .int .i64 (-1)) rfl rfl) rfl rfl ?_
    rintro u aq11 wq11 hf haq11 hsq11
    obtain rfl := Eq.symm hf
    clear haq8 hsq8 aq8 wq8
    refine wpList_nil ?_
    replace haq11 := haq11.pick' (L' := [(4, .int .i64 (-1))]) ⟨rfl, trivial⟩
    refine nrm ?_
    refine wp_ret ?_
    refine thenR ?_
    obtain rfl := Option.some.inj hm
    exact ret_1 haq11 rfl (res_tmp haq11 rfl) ⟨_, rfl, rfl, _, Hp.le.rfl, St.sel (hsq11) 1 [0] rfl rfl⟩
set_option maxHeartbeats 8000000 in
theorem c_g_slices_Clone_S_bool_bool (p0s : List Bool) (r : List Bool) (hm : m_g_slices_Clone_S_bool_bool p0s = some r) {I : Hp} {w0 : World} (va0 : Value) (ra0 : (rSlice 4 rBool).rd I [va0] p0s) : Con Try.prog 147 #[va0] I w0 [] (fun v => True) (fun v => [Ch.own (rSlice 4 rBool) [v] r]) := by
  refine con_of_wp (n := 8) [(0, va0)] Try.func147 rfl rfl (Nat.le_of_ble_eq_true rfl) (args_all ⟨rfl, trivial⟩) (fun F w a ha hs => ?_) (fun v => ⟨dp_own (dp_slice dp_bool), trivial⟩)
  unfold m_g_slices_Clone_S_bool_bool at hm
  refine wp_seq ?_
  refine wp_region_lit ?_
  refine seq_op0 ha hs (opT_assign (v := .slice none 0 0) rfl rfl) rfl rfl ?_
  rintro u aq1 wq1 hf haq1 hsq1
  obtain rfl := Eq.symm hf
  clear ha hs a w
  refine wpList_nil ?_
  replace haq1 := haq1.pick' (L' := [(0, va0)]) ⟨rfl, trivial⟩
  refine nrm ?_
  refine wp_seq ?_
  refine wp_seq ?_
  refine wp_region_lit ?_
  refine seq_op0 haq1 hsq1 (opT_move (v := va0) rfl rfl) rfl rfl ?_
  rintro u aq2 wq2 hf haq2 hsq2
  obtain rfl := Eq.symm hf
  clear haq1 hsq1 aq1 wq1
  refine seq_op0 haq2 hsq2 (opT_eqn Try.underlying22 (Hd.of_rd ra0) rfl rfl rfl) rfl rfl ?_
  rintro u aq3 wq3 hf haq3 hsq3
  obtain rfl := Eq.symm hf
  clear haq2 hsq2 aq2 wq2
  refine wpList_nil ?_
  replace haq3 := haq3.pick' (L' := [(0, va0), (4, .bool (isNilV va0))]) ⟨rfl, rfl, trivial⟩
  refine nrm ?_
  rcases two (isNilV va0) with hb1 | hb1
  · skip
    refine cnd_false (b := isNilV va0) haq3 rfl rfl hb1 ?_
    refine wp_skip ?_
    refine nrm ?_
    refine wp_seq ?_
    refine wp_region_lit ?_
    refine seq_op haq3 hsq3 rfl (opT_lit0 (E := 4) (R := rBool) Try.underlying22 ti4 rfl) (List.Perm.refl _) rfl ?_
    rintro v1 aq4 wq4 - haq4 (hsq4 : St I w0 wq4 [Ch.own (rSlice 4 rBool) [v1] ([] : List Bool), F])
    clear haq3 hsq3 aq3 wq3
    refine seq_op0 haq4 hsq4 (opT_move (v := va0) rfl rfl) rfl rfl ?_
    rintro u aq5 wq5 hf haq5 hsq5
    obtain rfl := Eq.symm hf
    clear haq4 hsq4 aq4 wq4
    obtain ⟨z1, e1, hm⟩ := bind_some hm
    refine seq_op haq5 hsq5 rfl (opT_app_fro (E := 4) (R := rBool) (S := rBool) (s := v1) (u := va0) e1 cpy_bool rfl ra0 Try.underlying22 tz4 rfl (by decide) rfl (by decide) rfl rfl rfl) (perm_front (i := 0) rfl) rfl ?_
    rintro v2 aq6 wq6 - haq6 (hsq6 : St I w0 wq6 [Ch.own (rSlice 4 rBool) [v2] z1, F])
    clear haq5 hsq5 aq5 wq5
    refine seq_op0 haq6 hsq6 (opT_assign (v := v2) rfl rfl) rfl rfl ?_
    rintro u aq7 wq7 hf haq7 hsq7
    obtain rfl := Eq.symm hf
    clear haq6 hsq6 aq6 wq6
    refine wpList_nil ?_
    replace haq7 := haq7.pick' (L' := [(2, v2)]) ⟨rfl, trivial⟩
    refine nrm ?_
    refine wp_ret ?_
    obtain rfl := Option.some.inj hm
    exact ret_1 haq7 rfl (res_tmp haq7 rfl) ⟨_, rfl, trivial, _, Hp.le.rfl, St.sel (hsq7) 2 [0, 1] rfl rfl⟩
  · have hz1 : p0s = [] := nil_list hb1 (Hd.of_rd ra0)
    replace hm : (some ([]) : Option (List Bool)) = some r := by simpa [hz1, appI] using hm
    refine cnd_true (b := isNilV va0) haq3 rfl rfl hb1 ?_
    refine wp_seq ?_
    refine wp_region_lit ?_
    refine seq_op0 haq3 hsq3 (opT_assign (v := .slice none 0 0) rfl rfl) rfl rfl ?_
    rintro u aq9 wq9 hf haq9 hsq9
    obtain rfl := Eq.symm hf
    clear haq3 hsq3 aq3 wq3
    refine wpList_nil ?_
    replace haq9 := haq9.pick' (L' := [(2, .slice none 0 0)]) ⟨rfl, trivial⟩
    refine nrm ?_
    refine wp_ret ?_
    refine thenR ?_
    obtain rfl := Option.some.inj hm
    exact ret_1 haq9 rfl (res_tmp haq9 rfl) ⟨_, rfl, trivial, _, Hp.le.rfl, St.sel ((St.nil hsq9)) 2 [0, 1] rfl rfl⟩
end Go.Proofs.Ytcihbmdppgpmjaa.D
