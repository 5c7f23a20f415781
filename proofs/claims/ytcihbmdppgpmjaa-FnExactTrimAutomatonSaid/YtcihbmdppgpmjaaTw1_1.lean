/- Printed by dec.py: models of functions and the walks that show them. -/
import Derived.Test.YtcihbmdppgpmjaaTw0_0
import Derived.Test.YtcihbmdppgpmjaaTw0_1
import Derived.Test.YtcihbmdppgpmjaaTw0_2
import Derived.Test.YtcihbmdppgpmjaaTw0_3
set_option linter.unusedVariables false
set_option linter.unusedSimpArgs false
set_option linter.unnecessarySimpa false
set_option maxRecDepth 100000
namespace Go.Proofs.Ytcihbmdppgpmjaa.D
open Go.RowKit
set_option maxHeartbeats 8000000 in
theorem c_i_Automaton_live (p0a : Int × (List Bool) × (List (List Int))) (r : List Bool) (hm : m_i_Automaton_live p0a = some r) {I : Hp} {w0 : World} (va0 : Value) (va1 : Value) (ra0 : (rSlice 4 rBool).rd I [va0] p0a.2.1) (ra1 : (rSlice 34 (rSlice 3 rInt)).rd I [va1] p0a.2.2) : Con Try.prog 96 #[.agg #[.int .i64 p0a.1, va0, va1]] I w0 [] (fun v => True) (fun v => [Ch.own (rSlice 4 rBool) [v] r]) := by
  refine con_of_wp (n := 48) [(0, .agg #[.int .i64 p0a.1, va0, va1])] Try.func96 rfl rfl (Nat.le_of_ble_eq_true rfl) (args_all ⟨rfl, trivial⟩) (fun F w a ha hs => ?_) (fun v => ⟨dp_own (dp_slice dp_bool), trivial⟩)
  unfold m_i_Automaton_live at hm
  refine wp_seq ?_
  refine wp_region_lit ?_
  refine seq_op ha hs rfl (opT_box (u := .agg #[.int .i64 p0a.1, va0, va1]) (l := [.int .i64 p0a.1, va0, va1]) rfl rfl rfl) (List.Perm.refl _) rfl ?_
  rintro _ aq1 wq1 ⟨g1, rfl⟩ haq1 (hsq1 : St I w0 wq1 [Ch.blk g1 [.int .i64 p0a.1, va0, va1] 27, F])
  clear ha hs a w
  refine seq_op0 haq1 hsq1 (opT_assign (v := .slice none 0 0) rfl rfl) rfl rfl ?_
  rintro u aq2 wq2 hf haq2 hsq2
  obtain rfl := Eq.symm hf
  clear haq1 hsq1 aq1 wq1
  refine wpList_nil ?_
  replace haq2 := haq2.pick' (L' := [(1, .pointer (some ⟨g1, 0, none⟩))]) ⟨rfl, trivial⟩
  refine nrm ?_
  refine wp_seq ?_
  refine wp_region_lit ?_
  refine seq_op0 haq2 hsq2 (opT_field_addr (g := g1) (b := 0) tf27_1 rfl rfl) rfl rfl ?_
  rintro u aq3 wq3 hf haq3 hsq3
  obtain rfl := Eq.symm hf
  clear haq2 hsq2 aq2 wq2
  refine seq_op haq3 hsq3 rfl (opT_load_blk (g := g1) (off := 1) (E := 27) (l := [.int .i64 p0a.1, va0, va1]) (d := [va0]) (u := va0) ti22 rfl rfl rfl rfl rfl rfl) (perm_front (i := 0) rfl) rfl ?_
  rintro u aq4 wq4 hf haq4 (hsq4 : St I w0 wq4 [Ch.blk g1 [.int .i64 p0a.1, va0, va1] 27, F])
  obtain rfl := Eq.symm hf
  clear haq3 hsq3 aq3 wq3
  obtain ⟨r1, e1, hm⟩ := bind_some hm
  refine seq_op haq4 hsq4 rfl (opT_call (args := #[va0]) (first := #[]) (captured := #[]) en147 rfl rfl rfl (c_g_slices_Clone_S_bool_bool p0a.2.1 _ e1 va0 ra0)) (List.Perm.refl _) rfl ?_
  rintro v1 aq5 wq5 - haq5 (hsq5 : St I w0 wq5 [Ch.own (rSlice 4 rBool) [v1] r1, Ch.blk g1 [.int .i64 p0a.1, va0, va1] 27, F])
  clear haq4 hsq4 aq4 wq4
  refine seq_op0 haq5 hsq5 (opT_assign (v := v1) rfl rfl) rfl rfl ?_
  rintro u aq6 wq6 hf haq6 hsq6
  obtain rfl := Eq.symm hf
  clear haq5 hsq5 aq5 wq5
  refine wpList_nil ?_
  replace haq6 := haq6.pick' (L' := [(1, .pointer (some ⟨g1, 0, none⟩)), (3, v1)]) ⟨rfl, rfl, trivial⟩
  refine nrm ?_
  refine wp_seq ?_
  refine wp_seq ?_
  refine wp_region_lit ?_
  refine seq_op0 haq6 hsq6 (opT_assign (v := .bool true) rfl rfl) rfl rfl ?_
  rintro u aq7 wq7 hf haq7 hsq7
  obtain rfl := Eq.symm hf
  clear haq6 hsq6 aq6 wq6
  refine wpList_nil ?_
  replace haq7 := haq7.pick' (L' := [(1, .pointer (some ⟨g1, 0, none⟩)), (3, v1), (4, .bool true)]) ⟨rfl, rfl, rfl, trivial⟩
  refine nrm ?_
  obtain ⟨o35, hl9, hc27⟩ := bindL_some hm
  refine wp_cut (fun a w => ∃ s54 : (List Bool) × Bool, o35 = .brk s54 ∧ Agr 48 a [(3, v1)] ∧ St I w0 w [Ch.own (rSlice 4 rBool) [v1] s54.1, F]) ?_ ?_
  · refine wp_block (wp_loopM (R := List Bool) (S := (List Bool) × Bool) (fun s53 a w => Agr 48 a [(1, .pointer (some ⟨g1, 0, none⟩)), (3, v1), (4, .bool s53.2)] ∧ St I w0 w [Ch.own (rSlice 4 rBool) [v1] s53.1, Ch.blk g1 [.int .i64 p0a.1, va0, va1] 27, F]) hl9 ?_ ?_)
    · exact ⟨haq7.pick' ⟨rfl, rfl, rfl, trivial⟩, St.sel hsq7 3 [0, 1, 2] rfl rfl⟩
    · rintro s53 o36 hm hf9 aq1650 wq1650 ⟨haq1650, hsq1650⟩
      unfold m_i_Automaton_live_l0 at hm
      refine wp_seq ?_
      refine wp_seq ?_
      refine wp_region_lit ?_
      refine seq_op0 haq1650 hsq1650 (opT_move (v := .bool s53.2) rfl rfl) rfl rfl ?_
      rintro u aq1651 wq1651 hf haq1651 hsq1651
      obtain rfl := Eq.symm hf
      clear haq1650 hsq1650 aq1650 wq1650
      refine wpList_nil ?_
      replace haq1651 := haq1651.pick' (L' := [(1, .pointer (some ⟨g1, 0, none⟩)), (3, v1), (12, .bool s53.2)]) ⟨rfl, rfl, rfl, trivial⟩
      refine nrm ?_
      rcases two (s53.2) with hb134 | hb134
      · replace hm := ifFe hb134 hm
        refine cnd_false (b := s53.2) haq1651 rfl rfl hb134 ?_
        refine wp_exit ?_
        refine thenX ?_
        refine thenX ?_
        refine ex_in ?_
        refine nrm ?_
        exact ⟨_, loopBrk hm hf9, ⟨haq1651.pick' ⟨rfl, trivial⟩, St.sel hsq1651 3 [0, 2] rfl rfl⟩⟩
      · replace hm := ifTe hb134 hm
        refine cnd_true (b := s53.2) haq1651 rfl rfl hb134 ?_
        refine wp_skip ?_
        refine nrm ?_
        refine wp_block ?_
        refine wp_seq ?_
        refine wp_region_lit ?_
        refine seq_op0 haq1651 hsq1651 (opT_assign (v := .bool false) rfl rfl) rfl rfl ?_
        rintro u aq1652 wq1652 hf haq1652 hsq1652
        obtain rfl := Eq.symm hf
        clear haq1651 hsq1651 aq1651 wq1651
        refine wpList_nil ?_
        replace haq1652 := haq1652.pick' (L' := [(1, .pointer (some ⟨g1, 0, none⟩)), (3, v1), (4, .bool false)]) ⟨rfl, rfl, rfl, trivial⟩
        refine nrm ?_
        refine wp_seq ?_
        refine wp_region_lit ?_
        refine seq_op0 haq1652 hsq1652 (opT_field_addr (g := g1) (b := 0) tf27_2 rfl rfl) rfl rfl ?_
        rintro u aq1653 wq1653 hf haq1653 hsq1653
        obtain rfl := Eq.symm hf
        clear haq1652 hsq1652 aq1652 wq1652
        refine seq_op haq1653 hsq1653 rfl (opT_load_blk (g := g1) (off := 2) (E := 27) (l := [.int .i64 p0a.1, va0, va1]) (d := [va1]) (u := va1) ti23 rfl rfl rfl rfl rfl rfl) (perm_front (i := 1) rfl) rfl ?_
        rintro u aq1654 wq1654 hf haq1654 (hsq1654 : St I w0 wq1654 [Ch.blk g1 [.int .i64 p0a.1, va0, va1] 27, Ch.own (rSlice 4 rBool) [v1] s53.1, F])
        obtain rfl := Eq.symm hf
        clear haq1653 hsq1653 aq1653 wq1653
        refine seq_op0 haq1654 hsq1654 (opT_len_hd (v := va1) (n := p0a.2.2.length) (Hd.of_rd ra1) Try.underlying23 rfl rfl) rfl rfl ?_
        rintro u aq1655 wq1655 hf haq1655 hsq1655
        obtain rfl := Eq.symm hf
        clear haq1654 hsq1654 aq1654 wq1654
        refine seq_op0 haq1655 hsq1655 (opT_move (v := .int .i64 0) rfl rfl) rfl rfl ?_
        rintro u aq1656 wq1656 hf haq1656 hsq1656
        obtain rfl := Eq.symm hf
        clear haq1655 hsq1655 aq1655 wq1655
        refine wpList_nil ?_
        replace haq1656 := haq1656.pick' (L' := [(1, .pointer (some ⟨g1, 0, none⟩)), (3, v1), (4, .bool false), (14, va1), (15, .int .i64 (p0a.2.2.length : Int)), (16, .int .i64 0)]) ⟨rfl, rfl, rfl, rfl, rfl, rfl, trivial⟩
        refine nrm ?_
        obtain ⟨o47, hl12, hc36⟩ := bindL_some hm
        refine wp_cut (fun a w => ∃ s72 : (List Bool) × Bool × Int, o47 = .brk s72 ∧ Agr 48 a [(1, .pointer (some ⟨g1, 0, none⟩)), (3, v1), (4, .bool s72.2.1)] ∧ St I w0 w [Ch.own (rSlice 4 rBool) [v1] s72.1, Ch.blk g1 [.int .i64 p0a.1, va0, va1] 27, F]) ?_ ?_
        · refine wp_block (wp_loopM (R := List Bool) (S := (List Bool) × Bool × Int) (fun s71 a w => Agr 48 a [(1, .pointer (some ⟨g1, 0, none⟩)), (3, v1), (4, .bool s71.2.1), (14, va1), (15, .int .i64 (p0a.2.2.length : Int)), (16, .int .i64 s71.2.2)] ∧ St I w0 w [Ch.own (rSlice 4 rBool) [v1] s71.1, Ch.blk g1 [.int .i64 p0a.1, va0, va1] 27, F]) hl12 ?_ ?_)
          · exact ⟨haq1656.pick' ⟨rfl, rfl, rfl, rfl, rfl, rfl, trivial⟩, St.sel hsq1656 3 [1, 0, 2] rfl rfl⟩
          · rintro s71 o48 hm hf12 aq2199 wq2199 ⟨haq2199, hsq2199⟩
            unfold m_i_Automaton_live_l1 at hm
            refine wp_seq ?_
            refine wp_region_lit ?_
            refine seq_op0 haq2199 hsq2199 (opT_cmp (k := .i64) (m := s71.2.2) (n := (p0a.2.2.length : Int)) (c := decide (s71.2.2 < (p0a.2.2.length : Int))) rfl rfl rfl rfl rfl) rfl rfl ?_
            rintro u aq2200 wq2200 hf haq2200 hsq2200
            obtain rfl := Eq.symm hf
            clear haq2199 hsq2199 aq2199 wq2199
            refine wpList_nil ?_
            replace haq2200 := haq2200.pick' (L' := [(1, .pointer (some ⟨g1, 0, none⟩)), (3, v1), (4, .bool s71.2.1), (14, va1), (15, .int .i64 (p0a.2.2.length : Int)), (16, .int .i64 s71.2.2), (17, .bool (decide (s71.2.2 < (p0a.2.2.length : Int))))]) ⟨rfl, rfl, rfl, rfl, rfl, rfl, rfl, trivial⟩
            refine nrm ?_
            refine wp_seq ?_
            rcases two (decide (s71.2.2 < (p0a.2.2.length : Int))) with hb179 | hb179
            · replace hm := ifFe hb179 hm
              refine cnd_false (b := decide (s71.2.2 < (p0a.2.2.length : Int))) haq2200 rfl rfl hb179 ?_
              refine wp_exit ?_
              refine thenX ?_
              refine thenX ?_
              refine ex_in ?_
              refine nrm ?_
              exact ⟨_, loopBrk hm hf12, ⟨haq2200.pick' ⟨rfl, rfl, rfl, trivial⟩, St.sel hsq2200 3 [0, 1, 2] rfl rfl⟩⟩
            · replace hm := ifTe hb179 hm
              refine cnd_true (b := decide (s71.2.2 < (p0a.2.2.length : Int))) haq2200 rfl rfl hb179 ?_
              refine wp_skip ?_
              refine nrm ?_
              refine wp_seq ?_
              refine wp_block ?_
              refine wp_seq ?_
              refine wp_region_lit ?_
              refine seq_op0 haq2200 hsq2200 (opT_move (v := .int .i64 s71.2.2) rfl rfl) rfl rfl ?_
              rintro u aq2201 wq2201 hf haq2201 hsq2201
              obtain rfl := Eq.symm hf
              clear haq2200 hsq2200 aq2200 wq2200
              obtain ⟨x201, e202, hm⟩ := bind_some hm
              refine seq_op0 haq2201 hsq2201 (opT_index_hd (xs := p0a.2.2) (i := s71.2.2) (n := 1) (Hd.of_rd ra1) Try.underlying23 ti34 rfl rfl rfl (getI_in e202)) rfl rfl ?_
              rintro u aq2202 wq2202 hf haq2202 hsq2202
              obtain rfl := Eq.symm hf
              clear haq2201 hsq2201 aq2201 wq2201
              refine seq_op0 haq2202 hsq2202 (opT_load_el (S := rSlice 3 rInt) (xs := p0a.2.2) (a := x201) (i := s71.2.2) (k := 1) (off := 0) (f := fun (x : List Int) => x) ra1 e202 Fld.self ti34 rfl rfl rfl rfl rfl) rfl rfl ?_
              rintro v10 aq2203 wq2203 hf haq2203 hsq2203
              have r10 := lds_sl hf
              clear hf
              clear haq2202 hsq2202 aq2202 wq2202
              refine seq_op0 haq2203 hsq2203 (opT_assign (v := .int .i64 s71.2.2) rfl rfl) rfl rfl ?_
              rintro u aq2204 wq2204 hf haq2204 hsq2204
              obtain rfl := Eq.symm hf
              clear haq2203 hsq2203 aq2203 wq2203
              refine seq_op0 haq2204 hsq2204 (opT_assign (v := v10) rfl rfl) rfl rfl ?_
              rintro u aq2205 wq2205 hf haq2205 hsq2205
              obtain rfl := Eq.symm hf
              clear haq2204 hsq2204 aq2204 wq2204
              refine wpList_nil ?_
              replace haq2205 := haq2205.pick' (L' := [(1, .pointer (some ⟨g1, 0, none⟩)), (3, v1), (4, .bool s71.2.1), (5, .int .i64 s71.2.2), (6, v10), (14, va1), (15, .int .i64 (p0a.2.2.length : Int)), (16, .int .i64 s71.2.2)]) ⟨rfl, rfl, rfl, rfl, rfl, rfl, rfl, rfl, trivial⟩
              refine nrm ?_
              refine wp_seq ?_
              refine wp_region_lit ?_
              refine seq_op0 haq2205 hsq2205 (opT_move (v := v10) rfl rfl) rfl rfl ?_
              rintro u aq2206 wq2206 hf haq2206 hsq2206
              obtain rfl := Eq.symm hf
              clear haq2205 hsq2205 aq2205 wq2205
              refine seq_op0 haq2206 hsq2206 (opT_len_hd (v := v10) (n := x201.length) (Hd.of_rd r10) Try.underlying34 rfl rfl) rfl rfl ?_
              rintro u aq2207 wq2207 hf haq2207 hsq2207
              obtain rfl := Eq.symm hf
              clear haq2206 hsq2206 aq2206 wq2206
              refine seq_op0 haq2207 hsq2207 (opT_move (v := .int .i64 0) rfl rfl) rfl rfl ?_
              rintro u aq2208 wq2208 hf haq2208 hsq2208
              obtain rfl := Eq.symm hf
              clear haq2207 hsq2207 aq2207 wq2207
              refine wpList_nil ?_
              replace haq2208 := haq2208.pick' (L' := [(1, .pointer (some ⟨g1, 0, none⟩)), (3, v1), (4, .bool s71.2.1), (5, .int .i64 s71.2.2), (14, va1), (15, .int .i64 (p0a.2.2.length : Int)), (16, .int .i64 s71.2.2), (21, v10), (22, .int .i64 (x201.length : Int)), (23, .int .i64 0)]) ⟨rfl, rfl, rfl, rfl, rfl, rfl, rfl, rfl, rfl, rfl, trivial⟩
              refine nrm ?_
              obtain ⟨o51, hl13, hc39⟩ := bindL_some hm
              refine wp_cut (fun a w => ∃ s78 : (List Bool) × Bool × Int, o51 = .brk s78 ∧ Agr 48 a [(1, .pointer (some ⟨g1, 0, none⟩)), (3, v1), (4, .bool s78.2.1), (14, va1), (15, .int .i64 (p0a.2.2.length : Int)), (16, .int .i64 s71.2.2)] ∧ St I w0 w [Ch.own (rSlice 4 rBool) [v1] s78.1, Ch.blk g1 [.int .i64 p0a.1, va0, va1] 27, F]) ?_ ?_
              · refine wp_block (wp_loopM (R := List Bool) (S := (List Bool) × Bool × Int) (fun s77 a w => Agr 48 a [(1, .pointer (some ⟨g1, 0, none⟩)), (3, v1), (4, .bool s77.2.1), (5, .int .i64 s71.2.2), (14, va1), (15, .int .i64 (p0a.2.2.length : Int)), (16, .int .i64 s71.2.2), (21, v10), (22, .int .i64 (x201.length : Int)), (23, .int .i64 s77.2.2)] ∧ St I w0 w [Ch.own (rSlice 4 rBool) [v1] s77.1, Ch.blk g1 [.int .i64 p0a.1, va0, va1] 27, F]) hl13 ?_ ?_)
                · exact ⟨haq2208.pick' ⟨rfl, rfl, rfl, rfl, rfl, rfl, rfl, rfl, rfl, rfl, trivial⟩, St.sel hsq2208 3 [0, 1, 2] rfl rfl⟩
                · rintro s77 o52 hm hf13 aq2381 wq2381 ⟨haq2381, hsq2381⟩
                  unfold m_i_Automaton_live_l2 at hm
                  refine wp_seq ?_
                  refine wp_region_lit ?_
                  refine seq_op0 haq2381 hsq2381 (opT_cmp (k := .i64) (m := s77.2.2) (n := (x201.length : Int)) (c := decide (s77.2.2 < (x201.length : Int))) rfl rfl rfl rfl rfl) rfl rfl ?_
                  rintro u aq2382 wq2382 hf haq2382 hsq2382
                  obtain rfl := Eq.symm hf
                  clear haq2381 hsq2381 aq2381 wq2381
                  refine wpList_nil ?_
                  replace haq2382 := haq2382.pick' (L' := [(1, .pointer (some ⟨g1, 0, none⟩)), (3, v1), (4, .bool s77.2.1), (5, .int .i64 s71.2.2), (14, va1), (15, .int .i64 (p0a.2.2.length : Int)), (16, .int .i64 s71.2.2), (21, v10), (22, .int .i64 (x201.length : Int)), (23, .int .i64 s77.2.2), (24, .bool (decide (s77.2.2 < (x201.length : Int))))]) ⟨rfl, rfl, rfl, rfl, rfl, rfl, rfl, rfl, rfl, rfl, rfl, trivial⟩
                  refine nrm ?_
                  refine wp_seq ?_
                  rcases two (decide (s77.2.2 < (x201.length : Int))) with hb194 | hb194
                  · replace hm := ifFe hb194 hm
                    refine cnd_false (b := decide (s77.2.2 < (x201.length : Int))) haq2382 rfl rfl hb194 ?_
                    refine wp_exit ?_
                    refine thenX ?_
                    refine thenX ?_
                    refine ex_in ?_
                    refine nrm ?_
                    exact ⟨_, loopBrk hm hf13, ⟨haq2382.pick' ⟨rfl, rfl, rfl, rfl, rfl, rfl, trivial⟩, St.sel hsq2382 3 [0, 1, 2] rfl rfl⟩⟩
                  · replace hm := ifTe hb194 hm
                    refine cnd_true (b := decide (s77.2.2 < (x201.length : Int))) haq2382 rfl rfl hb194 ?_
                    refine wp_skip ?_
                    refine nrm ?_
                    obtain ⟨s79, hj27, hm⟩ := bind_some hm
                    refine wp_seq_cut (fun a w => Agr 48 a [(1, .pointer (some ⟨g1, 0, none⟩)), (3, v1), (4, .bool s79.2), (5, .int .i64 s71.2.2), (14, va1), (15, .int .i64 (p0a.2.2.length : Int)), (16, .int .i64 s71.2.2), (21, v10), (22, .int .i64 (x201.length : Int)), (23, .int .i64 s77.2.2)] ∧ St I w0 w [Ch.own (rSlice 4 rBool) [v1] s79.1, Ch.blk g1 [.int .i64 p0a.1, va0, va1] 27, F]) ?_ ?_
                    · replace hm := hj27
                      refine wp_block ?_
                      refine wp_seq ?_
                      refine wp_region_lit ?_
                      obtain ⟨x222, e223, hm⟩ := bind_some hm
                      refine seq_op0 haq2382 hsq2382 (opT_index_hd (xs := x201) (i := s77.2.2) (n := 1) (Hd.of_rd r10) Try.underlying34 ti3 rfl rfl rfl (getI_in e223)) rfl rfl ?_
                      rintro u aq2424 wq2424 hf haq2424 hsq2424
                      obtain rfl := Eq.symm hf
                      clear haq2382 hsq2382 aq2382 wq2382
                      refine seq_op0 haq2424 hsq2424 (opT_load_el (S := rInt) (xs := x201) (a := x222) (i := s77.2.2) (k := 1) (off := 0) (f := fun (x : Int) => x) r10 e223 Fld.self ti3 rfl rfl rfl rfl rfl) rfl rfl ?_
                      rintro u aq2425 wq2425 hf haq2425 hsq2425
                      obtain rfl := lds_one hf
                      clear haq2424 hsq2424 aq2424 wq2424
                      refine seq_op0 haq2425 hsq2425 (opT_assign (v := .int .i64 x222) rfl rfl) rfl rfl ?_
                      rintro u aq2426 wq2426 hf haq2426 hsq2426
                      obtain rfl := Eq.symm hf
                      clear haq2425 hsq2425 aq2425 wq2425
                      refine wpList_nil ?_
                      replace haq2426 := haq2426.pick' (L' := [(1, .pointer (some ⟨g1, 0, none⟩)), (3, v1), (4, .bool s77.2.1), (5, .int .i64 s71.2.2), (8, .int .i64 x222), (14, va1), (15, .int .i64 (p0a.2.2.length : Int)), (16, .int .i64 s71.2.2), (21, v10), (22, .int .i64 (x201.length : Int)), (23, .int .i64 s77.2.2)]) ⟨rfl, rfl, rfl, rfl, rfl, rfl, rfl, rfl, rfl, rfl, rfl, trivial⟩
                      refine nrm ?_
                      refine wp_seq ?_
                      refine wp_region_lit ?_
                      refine seq_op0 haq2426 hsq2426 (opT_move (v := .int .i64 x222) rfl rfl) rfl rfl ?_
                      rintro u aq2427 wq2427 hf haq2427 hsq2427
                      obtain rfl := Eq.symm hf
                      clear haq2426 hsq2426 aq2426 wq2426
                      refine seq_op0 haq2427 hsq2427 (opT_cmp (k := .i64) (m := x222) (n := 0) (c := decide (x222 ≥ 0)) rfl rfl rfl rfl rfl) rfl rfl ?_
                      rintro u aq2428 wq2428 hf haq2428 hsq2428
                      obtain rfl := Eq.symm hf
                      clear haq2427 hsq2427 aq2427 wq2427
                      refine seq_op0 haq2428 hsq2428 (opT_move (v := .bool (decide (x222 ≥ 0))) rfl rfl) rfl rfl ?_
                      rintro u aq2429 wq2429 hf haq2429 hsq2429
                      obtain rfl := Eq.symm hf
                      clear haq2428 hsq2428 aq2428 wq2428
                      rcases two (decide (x222 ≥ 0)) with hb198 | hb198
                      · replace hm := ifFe hb198 hm
                        refine seq_skip (g := 2) (d := 29) (want := true) (b := decide (x222 ≥ 0)) haq2429 hsq2429 rfl rfl rfl hb198 rfl ?_
                        intro aq2430 haq2430
                        refine seq_skip (g := 2) (d := 29) (want := true) (b := decide (x222 ≥ 0)) haq2430 hsq2429 rfl rfl rfl hb198 rfl ?_
                        intro aq2431 haq2431
                        refine seq_skip (g := 2) (d := 29) (want := true) (b := decide (x222 ≥ 0)) haq2431 hsq2429 rfl rfl rfl hb198 rfl ?_
                        intro aq2432 haq2432
                        refine seq_skip (g := 2) (d := 29) (want := true) (b := decide (x222 ≥ 0)) haq2432 hsq2429 rfl rfl rfl hb198 rfl ?_
                        intro aq2433 haq2433
                        refine seq_op0 haq2433 hsq2429 (opT_pick (b := decide (x222 ≥ 0)) (v := .bool false) rfl rfl (ifF hb198)) rfl rfl ?_
                        rintro u aq2434 wq2434 hf haq2434 hsq2434
                        obtain rfl := Eq.symm hf
                        clear haq2433 hsq2429 aq2433 wq2429
                        refine seq_op0 haq2434 hsq2434 (opT_move (v := .bool false) rfl rfl) rfl rfl ?_
                        rintro u aq2435 wq2435 hf haq2435 hsq2435
                        obtain rfl := Eq.symm hf
                        clear haq2434 hsq2434 aq2434 wq2434
                        refine seq_skip (g := 8) (d := 35) (want := true) (b := false) haq2435 hsq2435 rfl rfl rfl rfl rfl ?_
                        intro aq2436 haq2436
                        refine seq_skip (g := 8) (d := 35) (want := true) (b := false) haq2436 hsq2435 rfl rfl rfl rfl rfl ?_
                        intro aq2437 haq2437
                        refine seq_skip (g := 8) (d := 35) (want := true) (b := false) haq2437 hsq2435 rfl rfl rfl rfl rfl ?_
                        intro aq2438 haq2438
                        refine seq_skip (g := 8) (d := 35) (want := true) (b := false) haq2438 hsq2435 rfl rfl rfl rfl rfl ?_
                        intro aq2439 haq2439
                        refine seq_skip (g := 8) (d := 35) (want := true) (b := false) haq2439 hsq2435 rfl rfl rfl rfl rfl ?_
                        intro aq2440 haq2440
                        refine seq_op0 haq2440 hsq2435 (opT_pick (b := false) (v := .bool false) rfl rfl (ifF rfl)) rfl rfl ?_
                        rintro u aq2441 wq2441 hf haq2441 hsq2441
                        obtain rfl := Eq.symm hf
                        clear haq2440 hsq2435 aq2440 wq2435
                        refine wpList_nil ?_
                        replace haq2441 := haq2441.pick' (L' := [(1, .pointer (some ⟨g1, 0, none⟩)), (3, v1), (4, .bool s77.2.1), (5, .int .i64 s71.2.2), (14, va1), (15, .int .i64 (p0a.2.2.length : Int)), (16, .int .i64 s71.2.2), (21, v10), (22, .int .i64 (x201.length : Int)), (23, .int .i64 s77.2.2), (41, .bool false)]) ⟨rfl, rfl, rfl, rfl, rfl, rfl, rfl, rfl, rfl, rfl, rfl, trivial⟩
                        refine nrm ?_
                        refine cnd_false (b := false) haq2441 rfl rfl rfl ?_
                        refine wp_skip ?_
                        refine nrmB ?_
                        refine nrm ?_
                        obtain rfl := Option.some.inj hm
                        exact ⟨haq2441.pick' ⟨rfl, rfl, rfl, rfl, rfl, rfl, rfl, rfl, rfl, rfl, trivial⟩, St.sel hsq2441 3 [0, 1, 2] rfl rfl⟩
                      · replace hm := ifTe hb198 hm
                        refine seq_op_g0 (g := 2) (d := 29) (want := true) (b := decide (x222 ≥ 0)) haq2429 hsq2429 rfl rfl rfl hb198 (opT_move (v := v1) rfl rfl) rfl ?_
                        rintro u aq2442 wq2442 hf haq2442 hsq2442
                        obtain rfl := Eq.symm hf
                        clear haq2429 hsq2429 aq2429 wq2429
                        refine seq_op_g0 (g := 2) (d := 29) (want := true) (b := decide (x222 ≥ 0)) haq2442 hsq2442 rfl rfl rfl hb198 (opT_move (v := .int .i64 x222) rfl rfl) rfl ?_
                        rintro u aq2443 wq2443 hf haq2443 hsq2443
                        obtain rfl := Eq.symm hf
                        clear haq2442 hsq2442 aq2442 wq2442
                        obtain ⟨x223, e224, hm⟩ := bind_some hm
                        refine seq_op_g0 (g := 2) (d := 29) (want := true) (b := decide (x222 ≥ 0)) haq2443 hsq2443 rfl rfl rfl hb198 (opT_index_hd (xs := s77.1) (i := x222) (n := 1) (St.hd hsq2443 0 rfl).1 Try.underlying22 ti4 rfl rfl rfl (getI_in e224)) rfl ?_
                        rintro u aq2444 wq2444 hf haq2444 hsq2444
                        obtain rfl := Eq.symm hf
                        clear haq2443 hsq2443 aq2443 wq2443
                        refine seq_op_g (g := 2) (d := 29) (want := true) (b := decide (x222 ≥ 0)) haq2444 hsq2444 rfl rfl rfl hb198 (opT_load_own (E := 4) (R := rBool) (S := rBool) (xs := s77.1) (a := x223) (i := x222) (k := 1) (off := 0) (f := fun (x : Bool) => x) sh_bool e224 Fld.self ti4 rfl rfl rfl rfl rfl) (perm_front (i := 0) rfl) rfl ?_
                        rintro u aq2445 wq2445 hf haq2445 (hsq2445 : St I w0 wq2445 [Ch.own (rSlice 4 rBool) [v1] s77.1, Ch.blk g1 [.int .i64 p0a.1, va0, va1] 27, F])
                        obtain rfl := lds_one hf
                        clear haq2444 hsq2444 aq2444 wq2444
                        refine seq_op0 haq2445 hsq2445 (opT_pick (b := decide (x222 ≥ 0)) (v := .bool x223) rfl rfl (ifT hb198)) rfl rfl ?_
                        rintro u aq2446 wq2446 hf haq2446 hsq2446
                        obtain rfl := Eq.symm hf
                        clear haq2445 hsq2445 aq2445 wq2445
                        refine seq_op0 haq2446 hsq2446 (opT_move (v := .bool x223) rfl rfl) rfl rfl ?_
                        rintro u aq2447 wq2447 hf haq2447 hsq2447
                        obtain rfl := Eq.symm hf
                        clear haq2446 hsq2446 aq2446 wq2446
                        rcases two (x223) with hb199 | hb199
                        · replace hm := ifFe hb199 hm
                          refine seq_skip (g := 8) (d := 35) (want := true) (b := x223) haq2447 hsq2447 rfl rfl rfl hb199 rfl ?_
                          intro aq2448 haq2448
                          refine seq_skip (g := 8) (d := 35) (want := true) (b := x223) haq2448 hsq2447 rfl rfl rfl hb199 rfl ?_
                          intro aq2449 haq2449
                          refine seq_skip (g := 8) (d := 35) (want := true) (b := x223) haq2449 hsq2447 rfl rfl rfl hb199 rfl ?_
                          intro aq2450 haq2450
                          refine seq_skip (g := 8) (d := 35) (want := true) (b := x223) haq2450 hsq2447 rfl rfl rfl hb199 rfl ?_
                          intro aq2451 haq2451
                          refine seq_skip (g := 8) (d := 35) (want := true) (b := x223) haq2451 hsq2447 rfl rfl rfl hb199 rfl ?_
                          intro aq2452 haq2452
                          refine seq_op0 haq2452 hsq2447 (opT_pick (b := x223) (v := .bool false) rfl rfl (ifF hb199)) rfl rfl ?_
                          rintro u aq2453 wq2453 hf haq2453 hsq2453
                          obtain rfl := Eq.symm hf
                          clear haq2452 hsq2447 aq2452 wq2447
                          refine wpList_nil ?_
                          replace haq2453 := haq2453.pick' (L' := [(1, .pointer (some ⟨g1, 0, none⟩)), (3, v1), (4, .bool s77.2.1), (5, .int .i64 s71.2.2), (14, va1), (15, .int .i64 (p0a.2.2.length : Int)), (16, .int .i64 s71.2.2), (21, v10), (22, .int .i64 (x201.length : Int)), (23, .int .i64 s77.2.2), (41, .bool false)]) ⟨rfl, rfl, rfl, rfl, rfl, rfl, rfl, rfl, rfl, rfl, rfl, trivial⟩
                          refine nrm ?_
                          refine cnd_false (b := false) haq2453 rfl rfl rfl ?_
                          refine wp_skip ?_
                          refine nrmB ?_
                          refine nrm ?_
                          obtain rfl := Option.some.inj hm
                          exact ⟨haq2453.pick' ⟨rfl, rfl, rfl, rfl, rfl, rfl, rfl, rfl, rfl, rfl, trivial⟩, St.sel hsq2453 3 [0, 1, 2] rfl rfl⟩
                        · replace hm := ifTe hb199 hm
                          refine seq_op_g0 (g := 8) (d := 35) (want := true) (b := x223) haq2447 hsq2447 rfl rfl rfl hb199 (opT_move (v := v1) rfl rfl) rfl ?_
                          rintro u aq2454 wq2454 hf haq2454 hsq2454
                          obtain rfl := Eq.symm hf
                          clear haq2447 hsq2447 aq2447 wq2447
                          refine seq_op_g0 (g := 8) (d := 35) (want := true) (b := x223) haq2454 hsq2454 rfl rfl rfl hb199 (opT_move (v := .int .i64 s71.2.2) rfl rfl) rfl ?_
                          rintro u aq2455 wq2455 hf haq2455 hsq2455
                          obtain rfl := Eq.symm hf
                          clear haq2454 hsq2454 aq2454 wq2454
                          obtain ⟨x224, e225, hm⟩ := bind_some hm
                          refine seq_op_g0 (g := 8) (d := 35) (want := true) (b := x223) haq2455 hsq2455 rfl rfl rfl hb199 (opT_index_hd (xs := s77.1) (i := s71.2.2) (n := 1) (St.hd hsq2455 0 rfl).1 Try.underlying22 ti4 rfl rfl rfl (getI_in e225)) rfl ?_
                          rintro u aq2456 wq2456 hf haq2456 hsq2456
                          obtain rfl := Eq.symm hf
                          clear haq2455 hsq2455 aq2455 wq2455
                          refine seq_op_g (g := 8) (d := 35) (want := true) (b := x223) haq2456 hsq2456 rfl rfl rfl hb199 (opT_load_own (E := 4) (R := rBool) (S := rBool) (xs := s77.1) (a := x224) (i := s71.2.2) (k := 1) (off := 0) (f := fun (x : Bool) => x) sh_bool e225 Fld.self ti4 rfl rfl rfl rfl rfl) (perm_front (i := 0) rfl) rfl ?_
                          rintro u aq2457 wq2457 hf haq2457 (hsq2457 : St I w0 wq2457 [Ch.own (rSlice 4 rBool) [v1] s77.1, Ch.blk g1 [.int .i64 p0a.1, va0, va1] 27, F])
                          obtain rfl := lds_one hf
                          clear haq2456 hsq2456 aq2456 wq2456
                          refine seq_op_g0 (g := 8) (d := 35) (want := true) (b := x223) haq2457 hsq2457 rfl rfl rfl hb199 (opT_not (b := x224) rfl rfl) rfl ?_
                          rintro u aq2458 wq2458 hf haq2458 hsq2458
                          obtain rfl := Eq.symm hf
                          clear haq2457 hsq2457 aq2457 wq2457
                          refine seq_op0 haq2458 hsq2458 (opT_pick (b := x223) (v := .bool (!x224)) rfl rfl (ifT hb199)) rfl rfl ?_
                          rintro u aq2459 wq2459 hf haq2459 hsq2459
                          obtain rfl := Eq.symm hf
                          clear haq2458 hsq2458 aq2458 wq2458
                          refine wpList_nil ?_
                          replace haq2459 := haq2459.pick' (L' := [(1, .pointer (some ⟨g1, 0, none⟩)), (3, v1), (4, .bool s77.2.1), (5, .int .i64 s71.2.2), (14, va1), (15, .int .i64 (p0a.2.2.length : Int)), (16, .int .i64 s71.2.2), (21, v10), (22, .int .i64 (x201.length : Int)), (23, .int .i64 s77.2.2), (41, .bool (!x224))]) ⟨rfl, rfl, rfl, rfl, rfl, rfl, rfl, rfl, rfl, rfl, rfl, trivial⟩
                          refine nrm ?_
                          rcases two (x224) with hb200 | hb200
                          · replace hm := ifFe hb200 hm
                            refine cnd_true (b := !x224) haq2459 rfl rfl (notT hb200) ?_
                            refine wp_seq ?_
                            refine wp_region_lit ?_
                            refine seq_op0 haq2459 hsq2459 (opT_move (v := v1) rfl rfl) rfl rfl ?_
                            rintro u aq2460 wq2460 hf haq2460 hsq2460
                            obtain rfl := Eq.symm hf
                            clear haq2459 hsq2459 aq2459 wq2459
                            refine seq_op0 haq2460 hsq2460 (opT_move (v := .int .i64 s71.2.2) rfl rfl) rfl rfl ?_
                            rintro u aq2461 wq2461 hf haq2461 hsq2461
                            obtain rfl := Eq.symm hf
                            clear haq2460 hsq2460 aq2460 wq2460
                            obtain ⟨x225, e226, hm⟩ := bind_some hm
                            refine seq_op0 haq2461 hsq2461 (opT_index_hd (xs := s77.1) (i := s71.2.2) (n := 1) (St.hd hsq2461 0 rfl).1 Try.underlying22 ti4 rfl rfl rfl (getI_in e226)) rfl rfl ?_
                            rintro u aq2462 wq2462 hf haq2462 hsq2462
                            obtain rfl := Eq.symm hf
                            clear haq2461 hsq2461 aq2461 wq2461
                            refine seq_op haq2462 hsq2462 rfl (opT_store_el (E := 4) (R := rBool) (S := rBool) (xs := s77.1) (a := x225) (b := true) (i := s71.2.2) (k := 1) (off := 0) (f := fun x y => y) (v := v1) (d := [.bool true]) (u := .bool true) sh_bool cpy_bool e226 Upd.self ti4 rfl rfl rfl rfl (allC rfl allN) rfl rfl (by decide) rfl) (perm_front (i := 0) rfl) rfl ?_
                            rintro _ aq2463 wq2463 - haq2463 (hsq2463 : St I w0 wq2463 [Ch.own (rSlice 4 rBool) [v1] (s77.1.set s71.2.2.toNat true), Ch.blk g1 [.int .i64 p0a.1, va0, va1] 27, F])
                            clear haq2462 hsq2462 aq2462 wq2462
                            refine wpList_nil ?_
                            replace haq2463 := haq2463.pick' (L' := [(1, .pointer (some ⟨g1, 0, none⟩)), (3, v1), (5, .int .i64 s71.2.2), (14, va1), (15, .int .i64 (p0a.2.2.length : Int)), (16, .int .i64 s71.2.2), (21, v10), (22, .int .i64 (x201.length : Int)), (23, .int .i64 s77.2.2)]) ⟨rfl, rfl, rfl, rfl, rfl, rfl, rfl, rfl, rfl, trivial⟩
                            refine nrm ?_
                            refine wp_region_lit ?_
                            refine seq_op0 haq2463 hsq2463 (opT_assign (v := .bool true) rfl rfl) rfl rfl ?_
                            rintro u aq2464 wq2464 hf haq2464 hsq2464
                            obtain rfl := Eq.symm hf
                            clear haq2463 hsq2463 aq2463 wq2463
                            refine wpList_nil ?_
                            replace haq2464 := haq2464.pick' (L' := [(1, .pointer (some ⟨g1, 0, none⟩)), (3, v1), (4, .bool true), (5, .int .i64 s71.2.2), (14, va1), (15, .int .i64 (p0a.2.2.length : Int)), (16, .int .i64 s71.2.2), (21, v10), (22, .int .i64 (x201.length : Int)), (23, .int .i64 s77.2.2)]) ⟨rfl, rfl, rfl, rfl, rfl, rfl, rfl, rfl, rfl, rfl, trivial⟩
                            refine nrmB ?_
                            refine nrm ?_
                            obtain rfl := Option.some.inj hm
                            exact ⟨haq2464.pick' ⟨rfl, rfl, rfl, rfl, rfl, rfl, rfl, rfl, rfl, rfl, trivial⟩, St.sel hsq2464 3 [0, 1, 2] rfl rfl⟩
                          · replace hm := ifTe hb200 hm
                            refine cnd_false (b := !x224) haq2459 rfl rfl (notF hb200) ?_
                            refine wp_skip ?_
                            refine nrmB ?_
                            refine nrm ?_
                            obtain rfl := Option.some.inj hm
                            exact ⟨haq2459.pick' ⟨rfl, rfl, rfl, rfl, rfl, rfl, rfl, rfl, rfl, rfl, trivial⟩, St.sel hsq2459 3 [0, 1, 2] rfl rfl⟩
                    · rintro aq2465 wq2465 ⟨haq2465, hsq2465⟩
                      refine wp_region_lit ?_
                      refine seq_op0 haq2465 hsq2465 (opT_add (m := s77.2.2) (n := 1) rfl rfl rfl) rfl rfl ?_
                      rintro u aq2466 wq2466 hf haq2466 hsq2466
                      obtain rfl := Eq.symm hf
                      clear haq2465 hsq2465 aq2465 wq2465
                      refine seq_op0 haq2466 hsq2466 (opT_move (v := .int .i64 (IntKind.i64.wrap (s77.2.2 + 1))) rfl rfl) rfl rfl ?_
                      rintro u aq2467 wq2467 hf haq2467 hsq2467
                      obtain rfl := Eq.symm hf
                      clear haq2466 hsq2466 aq2466 wq2466
                      refine wpList_nil ?_
                      replace haq2467 := haq2467.pick' (L' := [(1, .pointer (some ⟨g1, 0, none⟩)), (3, v1), (4, .bool s79.2), (5, .int .i64 s71.2.2), (14, va1), (15, .int .i64 (p0a.2.2.length : Int)), (16, .int .i64 s71.2.2), (21, v10), (22, .int .i64 (x201.length : Int)), (23, .int .i64 (IntKind.i64.wrap (s77.2.2 + 1)))]) ⟨rfl, rfl, rfl, rfl, rfl, rfl, rfl, rfl, rfl, rfl, trivial⟩
                      refine nrm ?_
                      exact ⟨_, (Option.some.inj hm).symm, ⟨haq2467.pick' ⟨rfl, rfl, rfl, rfl, rfl, rfl, rfl, rfl, rfl, rfl, trivial⟩, St.sel hsq2467 3 [0, 1, 2] rfl rfl⟩⟩
              · rintro aq2468 wq2468 ⟨s78, ho38, haq2468, hsq2468⟩
                replace hm := loopOut ho38 hc39
                clear ho38 hc39 hl13
                refine nrmB ?_
                refine nrm ?_
                refine wp_region_lit ?_
                refine seq_op0 haq2468 hsq2468 (opT_add (m := s71.2.2) (n := 1) rfl rfl rfl) rfl rfl ?_
                rintro u aq2469 wq2469 hf haq2469 hsq2469
                obtain rfl := Eq.symm hf
                clear haq2468 hsq2468 aq2468 wq2468
                refine seq_op0 haq2469 hsq2469 (opT_move (v := .int .i64 (IntKind.i64.wrap (s71.2.2 + 1))) rfl rfl) rfl rfl ?_
                rintro u aq2470 wq2470 hf haq2470 hsq2470
                obtain rfl := Eq.symm hf
                clear haq2469 hsq2469 aq2469 wq2469
                refine wpList_nil ?_
                replace haq2470 := haq2470.pick' (L' := [(1, .pointer (some ⟨g1, 0, none⟩)), (3, v1), (4, .bool s78.2.1), (14, va1), (15, .int .i64 (p0a.2.2.length : Int)), (16, .int .i64 (IntKind.i64.wrap (s71.2.2 + 1)))]) ⟨rfl, rfl, rfl, rfl, rfl, rfl, trivial⟩
                refine nrm ?_
                exact ⟨_, (Option.some.inj hm).symm, ⟨haq2470.pick' ⟨rfl, rfl, rfl, rfl, rfl, rfl, trivial⟩, St.sel hsq2470 3 [0, 1, 2] rfl rfl⟩⟩
        · rintro aq2471 wq2471 ⟨s72, ho39, haq2471, hsq2471⟩
          replace hm := loopOut ho39 hc36
          clear ho39 hc36 hl12
          refine nrmB ?_
          refine nrm ?_
          exact ⟨_, (Option.some.inj hm).symm, ⟨haq2471.pick' ⟨rfl, rfl, rfl, trivial⟩, St.sel hsq2471 3 [0, 1, 2] rfl rfl⟩⟩
  · rintro aq2472 wq2472 ⟨s54, ho40, haq2472, hsq2472⟩
    replace hm := loopOut ho40 hc27
    clear ho40 hc27 hl9
    refine nrm ?_
    refine wp_seq ?_
    refine wp_region_lit ?_
    refine seq_op0 haq2472 hsq2472 (opT_move (v := v1) rfl rfl) rfl rfl ?_
    rintro u aq2473 wq2473 hf haq2473 hsq2473
    obtain rfl := Eq.symm hf
    clear haq2472 hsq2472 aq2472 wq2472
    refine seq_op0 haq2473 hsq2473 (opT_assign (v := v1) rfl rfl) rfl rfl ?_
    rintro u aq2474 wq2474 hf haq2474 hsq2474
    obtain rfl := Eq.symm hf
    clear haq2473 hsq2473 aq2473 wq2473
    refine wpList_nil ?_
    replace haq2474 := haq2474.pick' (L' := [(2, v1)]) ⟨rfl, trivial⟩
    refine nrm ?_
    refine wp_ret ?_
    obtain rfl := Option.some.inj hm
    exact ret_1 haq2474 rfl (res_tmp haq2474 rfl) ⟨_, rfl, trivial, _, Hp.le.rfl, St.sel (hsq2474) 2 [0, 1] rfl rfl⟩
set_option maxHeartbeats 8000000 in
theorem c_w_toIntSS (p0a : List (List Int)) (r : List (List Int)) (hm : m_w_toIntSS p0a = some r) {I : Hp} {w0 : World} (va0 : Value) (ra0 : (rSlice 34 (rSlice 3 rInt)).rd I [va0] p0a) : Con Try.prog 50 #[va0] I w0 [] (fun v => True) (fun v => [Ch.own (rSlice 34 (rSlice 3 rInt)) [v] r]) := by
  refine con_of_wp (n := 23) [(0, va0)] Try.func50 rfl rfl (Nat.le_of_ble_eq_true rfl) (args_all ⟨rfl, trivial⟩) (fun F w a ha hs => ?_) (fun v => ⟨dp_own (dp_slice (dp_slice dp_int)), trivial⟩)
  unfold m_w_toIntSS at hm
  refine wp_seq ?_
  refine wp_region_lit ?_
  refine seq_op0 ha hs (opT_assign (v := .slice none 0 0) rfl rfl) rfl rfl ?_
  rintro u aq1 wq1 hf haq1 hsq1
  obtain rfl := Eq.symm hf
  clear ha hs a w
  refine wpList_nil ?_
  replace haq1 := haq1.pick' (L' := [(0, va0)]) ⟨rfl, trivial⟩
  refine nrm ?_
  refine wp_seq ?_
  refine wp_region_lit ?_
  refine seq_op0 haq1 hsq1 (opT_move (v := va0) rfl rfl) rfl rfl ?_
  rintro u aq2 wq2 hf haq2 hsq2
  obtain rfl := Eq.symm hf
  clear haq1 hsq1 aq1 wq1
  refine seq_op0 haq2 hsq2 (opT_len_hd (v := va0) (n := p0a.length) (Hd.of_rd ra0) Try.underlying23 rfl rfl) rfl rfl ?_
  rintro u aq3 wq3 hf haq3 hsq3
  obtain rfl := Eq.symm hf
  clear haq2 hsq2 aq2 wq2
  obtain ⟨x1, hk1, hm⟩ := bind_some hm
  refine seq_op haq3 hsq3 rfl (opT_mk (E := 34) (R := rSlice 3 rInt) (zv := .slice none 0 0) (z := ([] : List Int)) zro_nil Try.underlying23 tz34 rfl rfl (by decide) (by decide) rfl rfl hk1) (List.Perm.refl _) rfl ?_
  rintro v1 aq4 wq4 - haq4 (hsq4 : St I w0 wq4 [Ch.own (rSlice 34 (rSlice 3 rInt)) [v1] x1, F])
  clear haq3 hsq3 aq3 wq3
  refine seq_op0 haq4 hsq4 (opT_assign (v := v1) rfl rfl) rfl rfl ?_
  rintro u aq5 wq5 hf haq5 hsq5
  obtain rfl := Eq.symm hf
  clear haq4 hsq4 aq4 wq4
  refine wpList_nil ?_
  replace haq5 := haq5.pick' (L' := [(0, va0), (3, v1)]) ⟨rfl, rfl, trivial⟩
  refine nrm ?_
  refine wp_seq ?_
  refine wp_seq ?_
  refine wp_region_lit ?_
  refine seq_op0 haq5 hsq5 (opT_assign (v := .int .i64 0) rfl rfl) rfl rfl ?_
  rintro u aq6 wq6 hf haq6 hsq6
  obtain rfl := Eq.symm hf
  clear haq5 hsq5 aq5 wq5
  refine wpList_nil ?_
  replace haq6 := haq6.pick' (L' := [(0, va0), (3, v1), (4, .int .i64 0)]) ⟨rfl, rfl, rfl, trivial⟩
  refine nrm ?_
  obtain ⟨o1, hl1, hc1⟩ := bindL_some hm
  refine wp_cut (fun a w => ∃ s4 : (List (List Int)) × Int, o1 = .brk s4 ∧ Agr 23 a [(3, v1)] ∧ St I w0 w [Ch.own (rSlice 34 (rSlice 3 rInt)) [v1] s4.1, F]) ?_ ?_
  · refine wp_block (wp_loopM (R := List (List Int)) (S := (List (List Int)) × Int) (fun s3 a w => Agr 23 a [(0, va0), (3, v1), (4, .int .i64 s3.2)] ∧ St I w0 w [Ch.own (rSlice 34 (rSlice 3 rInt)) [v1] s3.1, F]) hl1 ?_ ?_)
    · exact ⟨haq6.pick' ⟨rfl, rfl, rfl, trivial⟩, St.sel hsq6 2 [0, 1] rfl rfl⟩
    · rintro s3 o2 hm hf1 aq39 wq39 ⟨haq39, hsq39⟩
      unfold m_w_toIntSS_l0 at hm
      refine wp_seq ?_
      refine wp_seq ?_
      refine wp_region_lit ?_
      refine seq_op0 haq39 hsq39 (opT_move (v := .int .i64 s3.2) rfl rfl) rfl rfl ?_
      rintro u aq40 wq40 hf haq40 hsq40
      obtain rfl := Eq.symm hf
      clear haq39 hsq39 aq39 wq39
      refine seq_op0 haq40 hsq40 (opT_move (v := va0) rfl rfl) rfl rfl ?_
      rintro u aq41 wq41 hf haq41 hsq41
      obtain rfl := Eq.symm hf
      clear haq40 hsq40 aq40 wq40
      refine seq_op0 haq41 hsq41 (opT_len_hd (v := va0) (n := p0a.length) (Hd.of_rd ra0) Try.underlying23 rfl rfl) rfl rfl ?_
      rintro u aq42 wq42 hf haq42 hsq42
      obtain rfl := Eq.symm hf
      clear haq41 hsq41 aq41 wq41
      refine seq_op0 haq42 hsq42 (opT_cmp (k := .i64) (m := s3.2) (n := (p0a.length : Int)) (c := decide (s3.2 < (p0a.length : Int))) rfl rfl rfl rfl rfl) rfl rfl ?_
      rintro u aq43 wq43 hf haq43 hsq43
      obtain rfl := Eq.symm hf
      clear haq42 hsq42 aq42 wq42
      refine wpList_nil ?_
      replace haq43 := haq43.pick' (L' := [(0, va0), (3, v1), (4, .int .i64 s3.2), (11, .bool (decide (s3.2 < (p0a.length : Int))))]) ⟨rfl, rfl, rfl, rfl, trivial⟩
      refine nrm ?_
      rcases two (decide (s3.2 < (p0a.length : Int))) with hb3 | hb3
      · replace hm := ifFe hb3 hm
        refine cnd_false (b := decide (s3.2 < (p0a.length : Int))) haq43 rfl rfl hb3 ?_
        refine wp_exit ?_
        refine thenX ?_
        refine thenX ?_
        refine ex_in ?_
        refine nrm ?_
        exact ⟨_, loopBrk hm hf1, ⟨haq43.pick' ⟨rfl, trivial⟩, St.sel hsq43 2 [0, 1] rfl rfl⟩⟩
      · replace hm := ifTe hb3 hm
        refine cnd_true (b := decide (s3.2 < (p0a.length : Int))) haq43 rfl rfl hb3 ?_
        refine wp_skip ?_
        refine nrm ?_
        refine wp_seq ?_
        refine wp_block ?_
        refine wp_region_lit ?_
        refine seq_op0 haq43 hsq43 (opT_move (v := v1) rfl rfl) rfl rfl ?_
        rintro u aq44 wq44 hf haq44 hsq44
        obtain rfl := Eq.symm hf
        clear haq43 hsq43 aq43 wq43
        refine seq_op0 haq44 hsq44 (opT_move (v := .int .i64 s3.2) rfl rfl) rfl rfl ?_
        rintro u aq45 wq45 hf haq45 hsq45
        obtain rfl := Eq.symm hf
        clear haq44 hsq44 aq44 wq44
        refine seq_op0 haq45 hsq45 (opT_move (v := va0) rfl rfl) rfl rfl ?_
        rintro u aq46 wq46 hf haq46 hsq46
        obtain rfl := Eq.symm hf
        clear haq45 hsq45 aq45 wq45
        refine seq_op0 haq46 hsq46 (opT_move (v := .int .i64 s3.2) rfl rfl) rfl rfl ?_
        rintro u aq47 wq47 hf haq47 hsq47
        obtain rfl := Eq.symm hf
        clear haq46 hsq46 aq46 wq46
        obtain ⟨x6, e7, hm⟩ := bind_some hm
        refine seq_op0 haq47 hsq47 (opT_index_hd (xs := p0a) (i := s3.2) (n := 1) (Hd.of_rd ra0) Try.underlying23 ti34 rfl rfl rfl (getI_in e7)) rfl rfl ?_
        rintro u aq48 wq48 hf haq48 hsq48
        obtain rfl := Eq.symm hf
        clear haq47 hsq47 aq47 wq47
        refine seq_op0 haq48 hsq48 (opT_load_el (S := rSlice 3 rInt) (xs := p0a) (a := x6) (i := s3.2) (k := 1) (off := 0) (f := fun (x : List Int) => x) ra0 e7 Fld.self ti34 rfl rfl rfl rfl rfl) rfl rfl ?_
        rintro v6 aq49 wq49 hf haq49 hsq49
        have r5 := lds_sl hf
        clear hf
        clear haq48 hsq48 aq48 wq48
        obtain ⟨r6, e8, hm⟩ := bind_some hm
        refine seq_op haq49 hsq49 rfl (opT_call (args := #[v6]) (first := #[]) (captured := #[]) en66 rfl rfl rfl (c_w_toIntS x6 _ e8 v6 r5)) (List.Perm.refl _) rfl ?_
        rintro v7 aq50 wq50 - haq50 (hsq50 : St I w0 wq50 [Ch.own (rSlice 3 rInt) [v7] r6, Ch.own (rSlice 34 (rSlice 3 rInt)) [v1] s3.1, F])
        clear haq49 hsq49 aq49 wq49
        obtain ⟨x7, e9, hm⟩ := bind_some hm
        refine seq_op0 haq50 hsq50 (opT_index_hd (xs := s3.1) (i := s3.2) (n := 1) (St.hd hsq50 1 rfl).1 Try.underlying23 ti34 rfl rfl rfl (getI_in e9)) rfl rfl ?_
        rintro u aq51 wq51 hf haq51 hsq51
        obtain rfl := Eq.symm hf
        clear haq50 hsq50 aq50 wq50
        refine seq_op haq51 hsq51 rfl (opT_store_own (E := 34) (R := rSlice 3 rInt) (S := rSlice 3 rInt) (xs := s3.1) (a := x7) (b := r6) (i := s3.2) (k := 1) (off := 0) (f := fun x y => y) (v := v1) (d := [v7]) (u := v7) bun_own e9 UpdO.self ti34 rfl rfl rfl (Hd.cells (St.hd hsq51 0 rfl).1) (allC (Hd.one (St.hd hsq51 0 rfl).1) allN) rfl rfl rfl (by decide)) (perm_sel [1, 0, 2] (m := 3) rfl rfl) rfl ?_
        rintro _ aq52 wq52 - haq52 (hsq52 : St I w0 wq52 [Ch.own (rSlice 34 (rSlice 3 rInt)) [v1] (s3.1.set s3.2.toNat r6), F])
        clear haq51 hsq51 aq51 wq51
        refine wpList_nil ?_
        replace haq52 := haq52.pick' (L' := [(0, va0), (3, v1), (4, .int .i64 s3.2)]) ⟨rfl, rfl, rfl, trivial⟩
        refine nrmB ?_
        refine nrm ?_
        refine wp_region_lit ?_
        refine seq_op0 haq52 hsq52 (opT_move (v := .int .i64 s3.2) rfl rfl) rfl rfl ?_
        rintro u aq53 wq53 hf haq53 hsq53
        obtain rfl := Eq.symm hf
        clear haq52 hsq52 aq52 wq52
        refine seq_op0 haq53 hsq53 (opT_add (m := s3.2) (n := 1) rfl rfl rfl) rfl rfl ?_
        rintro u aq54 wq54 hf haq54 hsq54
        obtain rfl := Eq.symm hf
        clear haq53 hsq53 aq53 wq53
        refine seq_op0 haq54 hsq54 (opT_assign (v := .int .i64 (IntKind.i64.wrap (s3.2 + 1))) rfl rfl) rfl rfl ?_
        rintro u aq55 wq55 hf haq55 hsq55
        obtain rfl := Eq.symm hf
        clear haq54 hsq54 aq54 wq54
        refine wpList_nil ?_
        replace haq55 := haq55.pick' (L' := [(0, va0), (3, v1), (4, .int .i64 (IntKind.i64.wrap (s3.2 + 1)))]) ⟨rfl, rfl, rfl, trivial⟩
        refine nrm ?_
        exact ⟨_, (Option.some.inj hm).symm, ⟨haq55.pick' ⟨rfl, rfl, rfl, trivial⟩, St.sel hsq55 2 [0, 1] rfl rfl⟩⟩
  · rintro aq56 wq56 ⟨s4, ho1, haq56, hsq56⟩
    replace hm := loopOut ho1 hc1
    clear ho1 hc1 hl1
    refine nrm ?_
    refine wp_seq ?_
    refine wp_region_lit ?_
    refine seq_op0 haq56 hsq56 (opT_move (v := v1) rfl rfl) rfl rfl ?_
    rintro u aq57 wq57 hf haq57 hsq57
    obtain rfl := Eq.symm hf
    clear haq56 hsq56 aq56 wq56
    refine seq_op0 haq57 hsq57 (opT_assign (v := v1) rfl rfl) rfl rfl ?_
    rintro u aq58 wq58 hf haq58 hsq58
    obtain rfl := Eq.symm hf
    clear haq57 hsq57 aq57 wq57
    refine wpList_nil ?_
    replace haq58 := haq58.pick' (L' := [(2, v1)]) ⟨rfl, trivial⟩
    refine nrm ?_
    refine wp_ret ?_
    obtain rfl := Option.some.inj hm
    exact ret_1 haq58 rfl (res_tmp haq58 rfl) ⟨_, rfl, trivial, _, Hp.le.rfl, St.sel (hsq58) 2 [0, 1] rfl rfl⟩
set_option maxHeartbeats 8000000 in
theorem c_g_math_bits_Mul (p0x : Int) (p1y : Int) (r : Int × Int) (hm : m_g_math_bits_Mul p0x p1y = some r) {I : Hp} {w0 : World} : Con Try.prog 171 #[.int .u64 p0x, .int .u64 p1y] I w0 [] (fun v => v = .tuple #[.int .u64 r.1, .int .u64 r.2]) (fun v => []) := by
  refine con_of_wp (n := 30) [(0, .int .u64 p0x), (1, .int .u64 p1y)] Try.func171 rfl rfl (Nat.le_of_ble_eq_true rfl) (args_all ⟨rfl, rfl, trivial⟩) (fun F w a ha hs => ?_) (fun v => trivial)
  unfold m_g_math_bits_Mul at hm
  refine wp_seq ?_
  refine wp_region_lit ?_
  refine seq_op0 ha hs (opT_assign (v := .int .u64 0) rfl rfl) rfl rfl ?_
  rintro u aq1 wq1 hf haq1 hsq1
  obtain rfl := Eq.symm hf
  clear ha hs a w
  refine seq_op0 haq1 hsq1 (opT_assign (v := .int .u64 0) rfl rfl) rfl rfl ?_
  rintro u aq2 wq2 hf haq2 hsq2
  obtain rfl := Eq.symm hf
  clear haq1 hsq1 aq1 wq1
  refine wpList_nil ?_
  replace haq2 := haq2.pick' (L' := [(0, .int .u64 p0x), (1, .int .u64 p1y)]) ⟨rfl, rfl, trivial⟩
  refine nrm ?_
  refine wp_seq ?_
  refine cnd_false (b := false) haq2 rfl rfl rfl ?_
  refine wp_skip ?_
  refine nrm ?_
  refine wp_seq ?_
  refine wp_region_lit ?_
  refine seq_op0 haq2 hsq2 (opT_move (v := .int .u64 p0x) rfl rfl) rfl rfl ?_
  rintro u aq3 wq3 hf haq3 hsq3
  obtain rfl := Eq.symm hf
  clear haq2 hsq2 aq2 wq2
  refine seq_op0 haq3 hsq3 (opT_move (v := .int .u64 p1y) rfl rfl) rfl rfl ?_
  rintro u aq4 wq4 hf haq4 hsq4
  obtain rfl := Eq.symm hf
  clear haq3 hsq3 aq3 wq3
  obtain ⟨r1, e1, hm⟩ := bind_some hm
  refine seq_op0 haq4 hsq4 (opT_call (args := #[.int .u64 p0x, .int .u64 p1y]) (first := #[]) (captured := #[]) en188 rfl rfl rfl (c_g_math_bits_Mul64 p0x p1y _ e1  )) rfl rfl ?_
  rintro u aq5 wq5 hf haq5 hsq5
  obtain rfl := Eq.symm hf
  clear haq4 hsq4 aq4 wq4
  refine seq_op0 haq5 hsq5 (opT_move (v := .tuple #[.int .u64 r1.1, .int .u64 r1.2]) rfl rfl) rfl rfl ?_
  rintro u aq6 wq6 hf haq6 hsq6
  obtain rfl := Eq.symm hf
  clear haq5 hsq5 aq5 wq5
  refine seq_op0 haq6 hsq6 (opT_extract (vs := #[.int .u64 r1.1, .int .u64 r1.2]) (v := .int .u64 r1.1) rfl rfl rfl) rfl rfl ?_
  rintro u aq7 wq7 hf haq7 hsq7
  obtain rfl := Eq.symm hf
  clear haq6 hsq6 aq6 wq6
  refine seq_op0 haq7 hsq7 (opT_extract (vs := #[.int .u64 r1.1, .int .u64 r1.2]) (v := .int .u64 r1.2) rfl rfl rfl) rfl rfl ?_
  rintro u aq8 wq8 hf haq8 hsq8
  obtain rfl := Eq.symm hf
  clear haq7 hsq7 aq7 wq7
  refine seq_op0 haq8 hsq8 (opT_assign (v := .int .u64 r1.1) rfl rfl) rfl rfl ?_
  rintro u aq9 wq9 hf haq9 hsq9
  obtain rfl := Eq.symm hf
  clear haq8 hsq8 aq8 wq8
  refine seq_op0 haq9 hsq9 (opT_assign (v := .int .u64 r1.2) rfl rfl) rfl rfl ?_
  rintro u aq10 wq10 hf haq10 hsq10
  obtain rfl := Eq.symm hf
  clear haq9 hsq9 aq9 wq9
  refine wpList_nil ?_
  replace haq10 := haq10.pick' (L' := [(8, .int .u64 r1.1), (9, .int .u64 r1.2)]) ⟨rfl, rfl, trivial⟩
  refine nrm ?_
  refine wp_seq ?_
  refine wp_region_lit ?_
  refine seq_op0 haq10 hsq10 (opT_move (v := .int .u64 r1.1) rfl rfl) rfl rfl ?_
  rintro u aq11 wq11 hf haq11 hsq11
  obtain rfl := Eq.symm hf
  clear haq10 hsq10 aq10 wq10
  refine seq_op0 haq11 hsq11 (opT_move (v := .int .u64 r1.2) rfl rfl) rfl rfl ?_
  rintro u aq12 wq12 hf haq12 hsq12
  obtain rfl := Eq.symm hf
  clear haq11 hsq11 aq11 wq11
  refine seq_op0 haq12 hsq12 (opT_assign (v := .int .u64 r1.1) rfl rfl) rfl rfl ?_
  rintro u aq13 wq13 hf haq13 hsq13
  obtain rfl := Eq.symm hf
  clear haq12 hsq12 aq12 wq12
  refine seq_op0 haq13 hsq13 (opT_assign (v := .int .u64 r1.2) rfl rfl) rfl rfl ?_
  rintro u aq14 wq14 hf haq14 hsq14
  obtain rfl := Eq.symm hf
  clear haq13 hsq13 aq13 wq13
  refine wpList_nil ?_
  replace haq14 := haq14.pick' (L' := [(4, .int .u64 r1.1), (5, .int .u64 r1.2)]) ⟨rfl, rfl, trivial⟩
  refine nrm ?_
  refine wp_ret ?_
  obtain rfl := Option.some.inj hm
  exact ret_2 haq14 rfl (res_tmp haq14 rfl) (res_tmp haq14 rfl) ⟨_, rfl, rfl, _, Hp.le.rfl, St.sel (hsq14) 1 [0] rfl rfl⟩
set_option maxHeartbeats 8000000 in
theorem c_i_isLetter (p0n : Int) (r : Bool) (hm : m_i_isLetter p0n = some r) {I : Hp} {w0 : World} : Con Try.prog 149 #[.int .i64 p0n] I w0 [] (fun v => v = .bool r) (fun v => []) := by
  refine con_of_wp (n := 5) [(0, .int .i64 p0n)] Try.func149 rfl rfl (Nat.le_of_ble_eq_true rfl) (args_all ⟨rfl, trivial⟩) (fun F w a ha hs => ?_) (fun v => trivial)
  unfold m_i_isLetter at hm
  refine wp_seq ?_
  refine wp_region_lit ?_
  refine seq_op0 ha hs (opT_assign (v := .bool false) rfl rfl) rfl rfl ?_
  rintro u aq1 wq1 hf haq1 hsq1
  obtain rfl := Eq.symm hf
  clear ha hs a w
  refine wpList_nil ?_
  replace haq1 := haq1.pick' (L' := [(0, .int .i64 p0n)]) ⟨rfl, trivial⟩
  refine nrm ?_
  refine wp_seq ?_
  refine wp_region_lit ?_
  refine seq_op0 haq1 hsq1 (opT_move (v := .int .i64 p0n) rfl rfl) rfl rfl ?_
  rintro u aq2 wq2 hf haq2 hsq2
  obtain rfl := Eq.symm hf
  clear haq1 hsq1 aq1 wq1
  obtain ⟨r1, e1, hm⟩ := bind_some hm
  refine seq_op0 haq2 hsq2 (opT_call (args := #[.int .i64 p0n, .int .i64 0, .int .i64 8]) (first := #[]) (captured := #[]) en95 rfl rfl rfl (c_i_within p0n 0 8 _ e1  )) rfl rfl ?_
  rintro u aq3 wq3 hf haq3 hsq3
  obtain rfl := Eq.symm hf
  clear haq2 hsq2 aq2 wq2
  refine seq_op0 haq3 hsq3 (opT_assign (v := .bool r1) rfl rfl) rfl rfl ?_
  rintro u aq4 wq4 hf haq4 hsq4
  obtain rfl := Eq.symm hf
  clear haq3 hsq3 aq3 wq3
  refine wpList_nil ?_
  replace haq4 := haq4.pick' (L' := [(2, .bool r1)]) ⟨rfl, trivial⟩
  refine nrm ?_
  refine wp_ret ?_
  obtain rfl := Option.some.inj hm
  exact ret_1 haq4 rfl (res_tmp haq4 rfl) ⟨_, rfl, rfl, _, Hp.le.rfl, St.sel (hsq4) 1 [0] rfl rfl⟩
end Go.Proofs.Ytcihbmdppgpmjaa.D
