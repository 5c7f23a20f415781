/- Printed by dec.py: models of functions and the walks that show them. -/
import Derived.Test.YtcihbmdppgpmjaaIw0_0
import Derived.Test.YtcihbmdppgpmjaaIw0_1
import Derived.Test.YtcihbmdppgpmjaaIw0_2
import Derived.Test.YtcihbmdppgpmjaaIw0_3
set_option linter.unusedVariables false
set_option linter.unusedSimpArgs false
set_option linter.unnecessarySimpa false
set_option maxRecDepth 100000
namespace Go.Proofs.Ytcihbmdppgpmjaa.D
open Go.RowKit
set_option maxHeartbeats 8000000 in
theorem c_i_Automaton_live (p0a : Int × (List Bool) × (List (List Int))) (r : List Bool) (hm : m_i_Automaton_live p0a = some r) {I : Hp} {w0 : World} (va0 : Value) (va1 : Value) (ra0 : (rSlice 4 rBool).rd I [va0] p0a.2.1) (ra1 : (rSlice 34 (rSlice 3 rInt)).rd I [va1] p0a.2.2) : Con Try.prog 96 #[.agg #[.int .i64 p0a.1, va0, va1]] I w0 [] (fun v => True) (fun v => [Ch.own (rSlice 4 rBool) [v] r]) := by
  refine con_of_wp (n := 48) [(0, .agg #[.int .i64 p0a.1, va0, va1])] Try.func96 rfl rfl (Nat.le_of_ble_eq_true rfl) (args_all ⟨rfl, trivial⟩) (fun F w a ha hs => ?_) (fun v => ⟨dp_own (dp_slice dp_bool), trivial⟩)
  unfold m_i_Automaton_live at hm
  refine wp_seq ?_
  refine wp_region_lit ?_
  refine seq_op ha hs rfl (opT_box (u := .agg #[.int .i64 p0a.1, va0, va1]) (l := [.int .i64 p0a.1, va0, va1]) rfl rfl rfl) (List.Perm.refl _) rfl ?_
  rintro _ aq1 wq1 ⟨g1, rfl⟩ haq1 (hsq1 : St I w0 wq1 [Ch.blk g1 [.int .i64 p0a.1, va0, va1] 27, F])
  clear ha hs a w
  refine seq_op0 haq1 hsq1 (opT_assign (v := .slice none 0 0) rfl rfl) rfl rfl ?_
  rintro u aq2 wq2 hf haq2 hsq2
  obtain rfl := Eq.symm hf
  clear haq1 hsq1 aq1 wq1
  refine wpList_nil ?_
  replace haq2 := haq2.pick' (L' := [(1, .pointer (some ⟨g1, 0, none⟩))]) ⟨rfl, trivial⟩
  refine nrm ?_
  refine wp_seq ?_
  refine wp_region_lit ?_
  refine seq_op0 haq2 hsq2 (opT_field_addr (g := g1) (b := 0) tf27_1 rfl rfl) rfl rfl ?_
  rintro u aq3 wq3 hf haq3 hsq3
  obtain rfl := Eq.symm hf
  clear haq2 hsq2 aq2 wq2
  refine seq_op haq3 hsq3 rfl (opT_load_blk (g := g1) (off := 1) (E := 27) (l := [.int .i64 p0a.1, va0, va1]) (d := [va0]) (u := va0) ti22 rfl rfl rfl rfl rfl rfl) (perm_front (i := 0) rfl) rfl ?_
  rintro u aq4 wq4 hf haq4 (hsq4 : St I w0 wq4 [Ch.blk g1 [.int .i64 p0a.1, va0, va1] 27, F])
  obtain rfl := Eq.symm hf
  clear haq3 hsq3 aq3 wq3
  obtain ⟨r1, e1, hm⟩ := bind_some hm
  refine seq_op haq4 hsq4 rfl (opT_call (args := #[va0]) (first := #[]) (captured := #[]) en147 rfl rfl rfl (c_g_slices_Clone_S_bool_bool p0a.2.1 _ e1 va0 ra0)) (List.Perm.refl _) rfl ?_
  rintro v1 aq5 wq5 - haq5 (hsq5 : St I w0 wq5 [Ch.own (rSlice 4 rBool) [v1] r1, Ch.blk g1 [.int .i64 p0a.1, va0, va1] 27, F])
  clear haq4 hsq4 aq4 wq4
  refine seq_op0 haq5 hsq5 (opT_assign (v := v1) rfl rfl) rfl rfl ?_
  rintro u aq6 wq6 hf haq6 hsq6
  obtain rfl := Eq.symm hf
  clear haq5 hsq5 aq5 wq5
  refine wpList_nil ?_
  replace haq6 := haq6.pick' (L' := [(1, .pointer (some ⟨g1, 0, none⟩)), (3, v1)]) ⟨rfl, rfl, trivial⟩
  refine nrm ?_
  refine wp_seq ?_
  refine wp_seq ?_
  refine wp_region_lit ?_
  refine seq_op0 haq6 hsq6 (opT_assign (v := .bool true) rfl rfl) rfl rfl ?_
  rintro u aq7 wq7 hf haq7 hsq7
  obtain rfl := Eq.symm hf
  clear haq6 hsq6 aq6 wq6
  refine wpList_nil ?_
  replace haq7 := haq7.pick' (L' := [(1, .pointer (some ⟨g1, 0, none⟩)), (3, v1), (4, .bool true)]) ⟨rfl, rfl, rfl, trivial⟩
  refine nrm ?_
  obtain ⟨o35, hl9, hc27⟩ := bindL_some hm
  refine wp_cut (fun a w => ∃ s54 : (List Bool) × Bool, o35 = .brk s54 ∧ Agr 48 a [(3, v1)] ∧ St I w0 w [Ch.own (rSlice 4 rBool) [v1] s54.1, F]) ?_ ?_
  · refine wp_block (wp_loopM (R := List Bool) (S := (List Bool) × Bool) (fun s53 a w => Agr 48 a [(1, .pointer (some ⟨g1, 0, none⟩)), (3, v1), (4, .bool s53.2)] ∧ St I w0 w [Ch.own (rSlice 4 rBool) [v1] s53.1, Ch.blk g1 [.int .i64 p0a.1, va0, va1] 27, F]) hl9 ?_ ?_)
    · exact ⟨haq7.pick' ⟨rfl, rfl, rfl, trivial⟩, St.sel hsq7 3 [0, 1, 2] rfl rfl⟩
    · rintro s53 o36 hm hf9 aq1650 wq1650 ⟨haq1650, hsq1650⟩
      unfold m_i_Automaton_live_l0 at hm
      refine wp_seq ?_
      refine wp_seq ?_
      refine wp_region_lit ?_
      refine seq_op0 haq1650 hsq1650 (opT_move (v := .bool s53.2) rfl rfl) rfl rfl ?_
      rintro u aq1651 wq1651 hf haq1651 hsq1651
      obtain rfl := Eq.symm hf
      clear haq1650 hsq1650 aq1650 wq1650
      refine wpList_nil ?_
      replace haq1651 := haq1651.pick' (L' := [(1, .pointer (some ⟨g1, 0, none⟩)), (3, v1), (12, .bool s53.2)]) ⟨rfl, rfl, rfl, trivial⟩
      refine nrm ?_
      rcases two (s53.2) with hb134 | hb134
      · replace hm := ifFe hb134 hm
        refine cnd_false (b := s53.2) haq1651 rfl rfl hb134 ?_
        refine wp_exit ?_
        refine thenX ?_
        refine thenX ?_
        refine ex_in ?_
        refine nrm ?_
        exact ⟨_, loopBrk hm hf9, ⟨haq1651.pick' ⟨rfl, trivial⟩, St.sel hsq1651 3 [0, 2] rfl rfl⟩⟩
      · replace hm := ifTe hb134 hm
        refine cnd_true (b := s53.2) haq1651 rfl rfl hb134 ?_
        refine wp_skip ?_
        refine nrm ?_
        refine wp_block ?_
        refine wp_seq ?_
        refine wp_region_lit ?_
        refine seq_op0 haq1651 hsq1651 (opT_assign (v := .bool false) rfl rfl) rfl rfl ?_
        rintro u aq1652 wq1652 hf haq1652 hsq1652
        obtain rfl := Eq.symm hf
        clear haq1651 hsq1651 aq1651 wq1651
        refine wpList_nil ?_
        replace haq1652 := haq1652.pick' (L' := [(1, .pointer (some ⟨g1, 0, none⟩)), (3, v1), (4, .bool false)]) ⟨rfl, rfl, rfl, trivial⟩
        refine nrm ?_
        refine wp_seq ?_
        refine wp_region_lit ?_
        refine seq_op0 haq1652 hsq1652 (opT_field_addr (g := g1) (b := 0) tf27_2 rfl rfl) rfl rfl ?_
        rintro u aq1653 wq1653 hf haq1653 hsq1653
        obtain rfl := Eq.symm hf
        clear haq1652 hsq1652 aq1652 wq1652
        refine seq_op haq1653 hsq1653 rfl (opT_load_blk (g := g1) (off := 2) (E := 27) (l := [.int .i64 p0a.1, va0, va1]) (d := [va1]) (u := va1) ti23 rfl rfl rfl rfl rfl rfl) (perm_front (i := 1) rfl) rfl ?_
        rintro u aq1654 wq1654 hf haq1654 (hsq1654 : St I w0 wq1654 [Ch.blk g1 [.int .i64 p0a.1, va0, va1] 27, Ch.own (rSlice 4 rBool) [v1] s53.1, F])
        obtain rfl := Eq.symm hf
        clear haq1653 hsq1653 aq1653 wq1653
        refine seq_op0 haq1654 hsq1654 (opT_len_hd (v := va1) (n := p0a.2.2.length) (Hd.of_rd ra1) Try.underlying23 rfl rfl) rfl rfl ?_
        rintro u aq1655 wq1655 hf haq1655 hsq1655
        obtain rfl := Eq.symm hf
        clear haq1654 hsq1654 aq1654 wq1654
        refine seq_op0 haq1655 hsq1655 (opT_move (v := .int .i64 0) rfl rfl) rfl rfl ?_
        rintro u aq1656 wq1656 hf haq1656 hsq1656
        obtain rfl := Eq.symm hf
        clear haq1655 hsq1655 aq1655 wq1655
        refine wpList_nil ?_
        replace haq1656 := haq1656.pick' (L' := [(1, .pointer (some ⟨g1, 0, none⟩)), (3, v1), (4, .bool false), (14, va1), (15, .int .i64 (p0a.2.2.length : Int)), (16, .int .i64 0)]) ⟨rfl, rfl, rfl, rfl, rfl, rfl, trivial⟩
        refine nrm ?_
        obtain ⟨o47, hl12, hc36⟩ := bindL_some hm
        refine wp_cut (fun a w => ∃ s72 : (List Bool) × Bool × Int, o47 = .brk s72 ∧ Agr 48 a [(1, .pointer (some ⟨g1, 0, none⟩)), (3, v1), (4, .bool s72.2.1)] ∧ St I w0 w [Ch.own (rSlice 4 rBool) [v1] s72.1, Ch.blk g1 [.int .i64 p0a.1, va0, va1] 27, F]) ?_ ?_
        · refine wp_block (wp_loopM (R := List Bool) (S := (List Bool) × Bool × Int) (fun s71 a w => Agr 48 a [(1, .pointer (some ⟨g1, 0, none⟩)), (3, v1), (4, .bool s71.2.1), (14, va1), (15, .int .i64 (p0a.2.2.length : Int)), (16, .int .i64 s71.2.2)] ∧ St I w0 w [Ch.own (rSlice 4 rBool) [v1] s71.1, Ch.blk g1 [.int .i64 p0a.1, va0, va1] 27, F]) hl12 ?_ ?_)
          · exact ⟨haq1656.pick' ⟨rfl, rfl, rfl, rfl, rfl, rfl, trivial⟩, St.sel hsq1656 3 [1, 0, 2] rfl rfl⟩
          · rintro s71 o48 hm hf12 aq2199 wq2199 ⟨haq2199, hsq2199⟩
            unfold m_i_Automaton_live_l1 at hm
            refine wp_seq ?_
            refine wp_region_lit ?_
            refine seq_op0 haq2199 hsq2199 (opT_cmp (k := .i64) (m := s71.2.2) (n := (p0a.2.2.length : Int)) (c := decide (s71.2.2 < (p0a.2.2.length : Int))) rfl rfl rfl rfl rfl) rfl rfl ?_
            rintro u aq2200 wq2200 hf haq2200 hsq2200
            obtain rfl := Eq.symm hf
            clear haq2199 hsq2199 aq2199 wq2199
            refine wpList_nil ?_
            replace haq2200 := haq2200.pick' (L' := [(1, .pointer (some ⟨g1, 0, none⟩)), (3, v1), (4, .bool s71.2.1), (14, va1), (15, .int .i64 (p0a.2.2.length : Int)), (16, .int .i64 s71.2.2), (17, .bool (decide (s71.2.2 < (p0a.2.2.length : Int))))]) ⟨rfl, rfl, rfl, rfl, rfl, rfl, rfl, trivial⟩
            refine nrm ?_
            refine wp_seq ?_
            rcases two (decide (s71.2.2 < (p0a.2.2.length : Int))) with hb179 | hb179
            · replace hm := ifFe hb179 hm
              refine cnd_false (b := decide (s71.2.2 < (p0a.2.2.length : Int))) haq2200 rfl rfl hb179 ?_
              refine wp_exit ?_
              refine thenX ?_
              refine thenX ?_
              refine ex_in ?_
              refine nrm ?_
              exact ⟨_, loopBrk hm hf12, ⟨haq2200.pick' ⟨rfl, rfl, rfl, trivial⟩, St.sel hsq2200 3 [0, 1, 2] rfl rfl⟩⟩
            · replace hm := ifTe hb179 hm
              refine cnd_true (b := decide (s71.2.2 < (p0a.2.2.length : Int))) haq2200 rfl rfl hb179 ?_
              refine wp_skip ?_
              refine nrm ?_
              refine wp_seq ?_
              refine wp_block ?_
              refine wp_seq ?_
              refine wp_region_lit ?_
              refine seq_op0 haq2200 hsq2200 (opT_move (v := .int .i64 s71.2.2) rfl rfl) rfl rfl ?_
              rintro u aq2201 wq2201 hf haq2201 hsq2201
              obtain rfl := Eq.symm hf
              clear haq2200 hsq2200 aq2200 wq2200
              obtain ⟨x201, e202, hm⟩ := bind_some hm
              refine seq_op0 haq2201 hsq2201 (opT_index_hd (xs := p0a.2.2) (i := s71.2.2) (n := 1) (Hd.of_rd ra1) Try.underlying23 ti34 rfl rfl rfl (getI_in e202)) rfl rfl ?_
              rintro u aq2202 wq2202 hf haq2202 hsq2202
              obtain rfl := Eq.symm hf
              clear haq2201 hsq2201 aq2201 wq2201
              refine seq_op0 haq2202 hsq2202 (opT_load_el (S := rSlice 3 rInt) (xs := p0a.2.2) (a := x201) (i := s71.2.2) (k := 1) (off := 0) (f := fun (x : List Int) => x) ra1 e202 Fld.self ti34 rfl rfl rfl rfl rfl) rfl rfl ?_
              rintro v10 aq2203 wq2203 hf haq2203 hsq2203
              have r10 := lds_sl hf
              clear hf
              clear haq2202 hsq2202 aq2202 wq2202
              refine seq_op0 haq2203 hsq2203 (opT_assign (v := .int .i64 s71.2.2) rfl rfl) rfl rfl ?_
              rintro u aq2204 wq2204 hf haq2204 hsq2204
              obtain rfl := Eq.symm hf
              clear haq2203 hsq2203 aq2203 wq2203
              refine seq_op0 haq2204 hsq2204 (opT_assign (v := v10) rfl rfl) rfl rfl ?_
              rintro u aq2205 wq2205 hf haq2205 hsq2205
              obtain rfl := Eq.symm hf
              clear haq2204 hsq2204 aq2204 wq2204
              refine wpList_nil ?_
              replace haq2205 := haq2205.pick' (L' := [(1, .pointer (some ⟨g1, 0, none⟩)), (3, v1), (4, .bool s71.2.1), (5, .int .i64 s71.2.2), (6, v10), (14, va1), (15, .int .i64 (p0a.2.2.length : Int)), (16, .int .i64 s71.2.2)]) ⟨rfl, rfl, rfl, rfl, rfl, rfl, rfl, rfl, trivial⟩
              refine nrm ?_
              refine wp_seq ?_
              refine wp_region_lit ?_
              refine seq_op0 haq2205 hsq2205 (opT_move (v := v10) rfl rfl) rfl rfl ?_
              rintro u aq2206 wq2206 hf haq2206 hsq2206
              obtain rfl := Eq.symm hf
              clear haq2205 hsq2205 aq2205 wq2205
              refine seq_op0 haq2206 hsq2206 (opT_len_hd (v := v10) (n := x201.length) (Hd.of_rd r10) Try.underlying34 rfl rfl) rfl rfl ?_
              rintro u aq2207 wq2207 hf haq2207 hsq2207
              obtain rfl := Eq.symm hf
              clear haq2206 hsq2206 aq2206 wq2206
              refine seq_op0 haq2207 hsq2207 (opT_move (v := .int .i64 0) rfl rfl) rfl rfl ?_
              rintro u aq2208 wq2208 hf haq2208 hsq2208
              obtain rfl := Eq.symm hf
              clear haq2207 hsq2207 aq2207 wq2207
              refine wpList_nil ?_
              replace haq2208 := haq2208.pick' (L' := [(1, .pointer (some ⟨g1, 0, none⟩)), (3, v1), (4, .bool s71.2.1), (5, .int .i64 s71.2.2), (14, va1), (15, .int .i64 (p0a.2.2.length : Int)), (16, .int .i64 s71.2.2), (21, v10), (22, .int .i64 (x201.length : Int)), (23, .int .i64 0)]) ⟨rfl, rfl, rfl, rfl, rfl, rfl, rfl, rfl, rfl, rfl, trivial⟩
              refine nrm ?_
              obtain ⟨o51, hl13, hc39⟩ := bindL_some hm
              refine wp_cut (fun a w => ∃ s78 : (List Bool) × Bool × Int, o51 = .brk s78 ∧ Agr 48 a [(1, .pointer (some ⟨g1, 0, none⟩)), (3, v1), (4, .bool s78.2.1), (14, va1), (15, .int .i64 (p0a.2.2.length : Int)), (16, .int .i64 s71.2.2)] ∧ St I w0 w [Ch.own (rSlice 4 rBool) [v1] s78.1, Ch.blk g1 [.int .i64 p0a.1, va0, va1] 27, F]) ?_ ?_
              · refine wp_block (wp_loopM (R := List Bool) (S := (List Bool) × Bool × Int) (fun s77 a w => Agr 48 a [(1, .pointer (some ⟨g1, 0, none⟩)), (3, v1), (4, .bool s77.2.1), (5, .int .i64 s71.2.2), (14, va1), (15, .int .i64 (p0a.2.2.length : Int)), (16, .int .i64 s71.2.2), (21, v10), (22, .int .i64 (x201.length : Int)), (23, .int .i64 s77.2.2)] ∧ St I w0 w [Ch.own (rSlice 4 rBool) [v1] s77.1, Ch.blk g1 [.int .i64 p0a.1, va0, va1] 27, F]) hl13 ?_ ?_)
                · exact ⟨haq2208.pick' ⟨rfl, rfl, rfl, rfl, rfl, rfl, rfl, rfl, rfl, rfl, trivial⟩, St.sel hsq2208 3 [0, 1, 2] rfl rfl⟩
                · rintro s77 o52 hm hf13 aq2381 wq2381 ⟨haq2381, hsq2381⟩
                  unfold m_i_Automaton_live_l2 at hm
                  refine wp_seq ?_
                  refine wp_region_lit ?_
                  refine seq_op0 haq2381 hsq2381 (opT_cmp (k := .i64) (m := s77.2.2) (n := (x201.length : Int)) (c := decide (s77.2.2 < (x201.length : Int))) rfl rfl rfl rfl rfl) rfl rfl ?_
                  rintro u aq2382 wq2382 hf haq2382 hsq2382
                  obtain rfl := Eq.symm hf
                  clear haq2381 hsq2381 aq2381 wq2381
                  refine wpList_nil ?_
                  replace haq2382 := haq2382.pick' (L' := [(1, .pointer (some ⟨g1, 0, none⟩)), (3, v1), (4, .bool s77.2.1), (5, .int .i64 s71.2.2), (14, va1), (15, .int .i64 (p0a.2.2.length : Int)), (16, .int .i64 s71.2.2), (21, v10), (22, .int .i64 (x201.length : Int)), (23, .int .i64 s77.2.2), (24, .bool (decide (s77.2.2 < (x201.length : Int))))]) ⟨rfl, rfl, rfl, rfl, rfl, rfl, rfl, rfl, rfl, rfl, rfl, trivial⟩
                  refine nrm ?_
                  refine wp_seq ?_
                  rcases two (decide (s77.2.2 < (x201.length : Int))) with hb194 | hb194
                  · replace hm := ifFe hb194 hm
                    refine cnd_false (b := decide (s77.2.2 < (x201.length : Int))) haq2382 rfl rfl hb194 ?_
                    refine wp_exit ?_
                    refine thenX ?_
                    refine thenX ?_
                    refine ex_in ?_
                    refine nrm ?_
                    exact ⟨_, loopBrk hm hf13, ⟨haq2382.pick' ⟨rfl, rfl, rfl, rfl, rfl, rfl, trivial⟩, St.sel hsq2382 3 [0, 1, 2] rfl rfl⟩⟩
                  · replace hm := ifTe hb194 hm
                    refine cnd_true (b := decide (s77.2.2 < (x201.length : Int))) haq2382 rfl rfl hb194 ?_
                    refine wp_skip ?_
                    refine nrm ?_
                    obtain ⟨s79, hj27, hm⟩ := bind_some hm
                    refine wp_seq_cut (fun a w => Agr 48 a [(1, .pointer (some ⟨g1, 0, none⟩)), (3, v1), (4, .bool s79.2), (5, .int .i64 s71.2.2), (14, va1), (15, .int .i64 (p0a.2.2.length : Int)), (16, .int .i64 s71.2.2), (21, v10), (22, .int .i64 (x201.length : Int)), (23, .int .i64 s77.2.2)] ∧ St I w0 w [Ch.own (rSlice 4 rBool) [v1] s79.1, Ch.blk g1 [.int .i64 p0a.1, va0, va1] 27, F]) ?_ ?_
                    · replace hm := hj27
                      refine wp_block ?_
                      refine wp_seq ?_
                      refine wp_region_lit ?_
                      obtain ⟨x222, e223, hm⟩ := bind_some hm
                      refine seq_op0 haq2382 hsq2382 (opT_index_hd (xs := x201) (i := s77.2.2) (n := 1) (Hd.of_rd r10) Try.underlying34 ti3 rfl rfl rfl (getI_in e223)) rfl rfl ?_
                      rintro u aq2424 wq2424 hf haq2424 hsq2424
                      obtain rfl := Eq.symm hf
                      clear haq2382 hsq2382 aq2382 wq2382
                      refine seq_op0 haq2424 hsq2424 (opT_load_el (S := rInt) (xs := x201) (a := x222) (i := s77.2.2) (k := 1) (off := 0) (f := fun (x : Int) => x) r10 e223 Fld.self ti3 rfl rfl rfl rfl rfl) rfl rfl ?_
                      rintro u aq2425 wq2425 hf haq2425 hsq2425
                      obtain rfl := lds_one hf
                      clear haq2424 hsq2424 aq2424 wq2424
                      refine seq_op0 haq2425 hsq2425 (opT_assign (v := .int .i64 x222) rfl rfl) rfl rfl ?_
                      rintro u aq2426 wq2426 hf haq2426 hsq2426
                      obtain rfl := Eq.symm hf
                      clear haq2425 hsq2425 aq2425 wq2425
                      refine wpList_nil ?_
                      replace haq2426 := haq2426.pick' (L' := [(1, .pointer (some ⟨g1, 0, none⟩)), (3, v1), (4, .bool s77.2.1), (5, .int .i64 s71.2.2), (8, .int .i64 x222), (14, va1), (15, .int .i64 (p0a.2.2.length : Int)), (16, .int .i64 s71.2.2), (21, v10), (22, .int .i64 (x201.length : Int)), (23, .int .i64 s77.2.2)]) ⟨rfl, rfl, rfl, rfl, rfl, rfl, rfl, rfl, rfl, rfl, rfl, trivial⟩
                      refine nrm ?_
                      refine wp_seq ?_
                      refine wp_region_lit ?_
                      refine seq_op0 haq2426 hsq2426 (opT_move (v := .int .i64 x222) rfl rfl) rfl rfl ?_
                      rintro u aq2427 wq2427 hf haq2427 hsq2427
                      obtain rfl := Eq.symm hf
                      clear haq2426 hsq2426 aq2426 wq2426
                      refine seq_op0 haq2427 hsq2427 (opT_cmp (k := .i64) (m := x222) (n := 0) (c := decide (x222 ≥ 0)) rfl rfl rfl rfl rfl) rfl rfl ?_
                      rintro u aq2428 wq2428 hf haq2428 hsq2428
                      obtain rfl := Eq.symm hf
                      clear haq2427 hsq2427 aq2427 wq2427
                      refine seq_op0 haq2428 hsq2428 (opT_move (v := .bool (decide (x222 ≥ 0))) rfl rfl) rfl rfl ?_
                      rintro u aq2429 wq2429 hf haq2429 hsq2429
                      obtain rfl := Eq.symm hf
                      clear haq2428 hsq2428 aq2428 wq2428
                      rcases two (decide (x222 ≥ 0)) with hb198 | hb198
                      · replace hm := ifFe hb198 hm
                        refine seq_skip (g := 2) (d := 29) (want := true) (b := decide (x222 ≥ 0)) haq2429 hsq2429 rfl rfl rfl hb198 rfl ?_
                        intro aq2430 haq2430
                        refine seq_skip (g := 2) (d := 29) (want := true) (b := decide (x222 ≥ 0)) haq2430 hsq2429 rfl rfl rfl hb198 rfl ?_
                        intro aq2431 haq2431
                        refine seq_skip (g := 2) (d := 29) (want := true) (b := decide (x222 ≥ 0)) haq2431 hsq2429 rfl rfl rfl hb198 rfl ?_
                        intro aq2432 haq2432
                        refine seq_skip (g := 2) (d := 29) (want := true) (b := decide (x222 ≥ 0)) haq2432 hsq2429 rfl rfl rfl hb198 rfl ?_
                        intro aq2433 haq2433
                        refine seq_op0 haq2433 hsq2429 (opT_pick (b := decide (x222 ≥ 0)) (v := .bool false) rfl rfl (ifF hb198)) rfl rfl ?_
                        rintro u aq2434 wq2434 hf haq2434 hsq2434
                        obtain rfl := Eq.symm hf
                        clear haq2433 hsq2429 aq2433 wq2429
                        refine seq_op0 haq2434 hsq2434 (opT_move (v := .bool false) rfl rfl) rfl rfl ?_
                        rintro u aq2435 wq2435 hf haq2435 hsq2435
                        obtain rfl := Eq.symm hf
                        clear haq2434 hsq2434 aq2434 wq2434
                        refine seq_skip (g := 8) (d := 35) (want := true) (b := false) haq2435 hsq2435 rfl rfl rfl rfl rfl ?_
                        intro aq2436 haq2436
                        refine seq_skip (g := 8) (d := 35) (want := true) (b := false) haq2436 hsq2435 rfl rfl rfl rfl rfl ?_
                        intro aq2437 haq2437
                        refine seq_skip (g := 8) (d := 35) (want := true) (b := false) haq2437 hsq2435 rfl rfl rfl rfl rfl ?_
                        intro aq2438 haq2438
                        refine seq_skip (g := 8) (d := 35) (want := true) (b := false) haq2438 hsq2435 rfl rfl rfl rfl rfl ?_
                        intro aq2439 haq2439
                        refine seq_skip (g := 8) (d := 35) (want := true) (b := false) haq2439 hsq2435 rfl rfl rfl rfl rfl ?_
                        intro aq2440 haq2440
                        refine seq_op0 haq2440 hsq2435 (opT_pick (b := false) (v := .bool false) rfl rfl (ifF rfl)) rfl rfl ?_
                        rintro u aq2441 wq2441 hf haq2441 hsq2441
                        obtain rfl := Eq.symm hf
                        clear haq2440 hsq2435 aq2440 wq2435
                        refine wpList_nil ?_
                        replace haq2441 := haq2441.pick' (L' := [(1, .pointer (some ⟨g1, 0, none⟩)), (3, v1), (4, .bool s77.2.1), (5, .int .i64 s71.2.2), (14, va1), (15, .int .i64 (p0a.2.2.length : Int)), (16, .int .i64 s71.2.2), (21, v10), (22, .int .i64 (x201.length : Int)), (23, .int .i64 s77.2.2), (41, .bool false)]) ⟨rfl, rfl, rfl, rfl, rfl, rfl, rfl, rfl, rfl, rfl, rfl, trivial⟩
                        refine nrm ?_
                        refine cnd_false (b := false) haq2441 rfl rfl rfl ?_
                        refine wp_skip ?_
                        refine nrmB ?_
                        refine nrm ?_
                        obtain rfl := Option.some.inj hm
                        exact ⟨haq2441.pick' ⟨rfl, rfl, rfl, rfl, rfl, rfl, rfl, rfl, rfl, rfl, trivial⟩, St.sel hsq2441 3 [0, 1, 2] rfl rfl⟩
                      · replace hm := ifTe hb198 hm
                        refine seq_op_g0 (g := 2) (d := 29) (want := true) (b := decide (x222 ≥ 0)) haq2429 hsq2429 rfl rfl rfl hb198 (opT_move (v := v1) rfl rfl) rfl ?_
                        rintro u aq2442 wq2442 hf haq2442 hsq2442
                        obtain rfl := Eq.symm hf
                        clear haq2429 hsq2429 aq2429 wq2429
                        refine seq_op_g0 (g := 2) (d := 29) (want := true) (b := decide (x222 ≥ 0)) haq2442 hsq2442 rfl rfl rfl hb198 (opT_move (v := .int .i64 x222) rfl rfl) rfl ?_
                        rintro u aq2443 wq2443 hf haq2443 hsq2443
                        obtain rfl := Eq.symm hf
                        clear haq2442 hsq2442 aq2442 wq2442
                        obtain ⟨x223, e224, hm⟩ := bind_some hm
                        refine seq_op_g0 (g := 2) (d := 29) (want := true) (b := decide (x222 ≥ 0)) haq2443 hsq2443 rfl rfl rfl hb198 (opT_index_hd (xs := s77.1) (i := x222) (n := 1) (St.hd hsq2443 0 rfl).1 Try.underlying22 ti4 rfl rfl rfl (getI_in e224)) rfl ?_
                        rintro u aq2444 wq2444 hf haq2444 hsq2444
                        obtain rfl := Eq.symm hf
                        clear haq2443 hsq2443 aq2443 wq2443
                        refine seq_op_g (g := 2) (d := 29) (want := true) (b := decide (x222 ≥ 0)) haq2444 hsq2444 rfl rfl rfl hb198 (opT_load_own (E := 4) (R := rBool) (S := rBool) (xs := s77.1) (a := x223) (i := x222) (k := 1) (off := 0) (f := fun (x : Bool) => x) sh_bool e224 Fld.self ti4 rfl rfl rfl rfl rfl) (perm_front (i := 0) rfl) rfl ?_
                        rintro u aq2445 wq2445 hf haq2445 (hsq2445 : St I w0 wq2445 [Ch.own (rSlice 4 rBool) [v1] s77.1, Ch.blk g1 [.int .i64 p0a.1, va0, va1] 27, F])
                        obtain rfl := lds_one hf
                        clear haq2444 hsq2444 aq2444 wq2444
                        refine seq_op0 haq2445 hsq2445 (opT_pick (b := decide (x222 ≥ 0)) (v := .bool x223) rfl rfl (ifT hb198)) rfl rfl ?_
                        rintro u aq2446 wq2446 hf haq2446 hsq2446
                        obtain rfl := Eq.symm hf
                        clear haq2445 hsq2445 aq2445 wq2445
                        refine seq_op0 haq2446 hsq2446 (opT_move (v := .bool x223) rfl rfl) rfl rfl ?_
                        rintro u aq2447 wq2447 hf haq2447 hsq2447
                        obtain rfl := Eq.symm hf
                        clear haq2446 hsq2446 aq2446 wq2446
                        rcases two (x223) with hb199 | hb199
                        · replace hm := ifFe hb199 hm
                          refine seq_skip (g := 8) (d := 35) (want := true) (b := x223) haq2447 hsq2447 rfl rfl rfl hb199 rfl ?_
                          intro aq2448 haq2448
                          refine seq_skip (g := 8) (d := 35) (want := true) (b := x223) haq2448 hsq2447 rfl rfl rfl hb199 rfl ?_
                          intro aq2449 haq2449
                          refine seq_skip (g := 8) (d := 35) (want := true) (b := x223) haq2449 hsq2447 rfl rfl rfl hb199 rfl ?_
                          intro aq2450 haq2450
                          refine seq_skip (g := 8) (d := 35) (want := true) (b := x223) haq2450 hsq2447 rfl rfl rfl hb199 rfl ?_
                          intro aq2451 haq2451
                          refine seq_skip (g := 8) (d := 35) (want := true) (b := x223) haq2451 hsq2447 rfl rfl rfl hb199 rfl ?_
                          intro aq2452 haq2452
                          refine seq_op0 haq2452 hsq2447 (opT_pick (b := x223) (v := .bool false) rfl rfl (ifF hb199)) rfl rfl ?_
                          rintro u aq2453 wq2453 hf haq2453 hsq2453
                          obtain rfl := Eq.symm hf
                          clear haq2452 hsq2447 aq2452 wq2447
                          refine wpList_nil ?_
                          replace haq2453 := haq2453.pick' (L' := [(1, .pointer (some ⟨g1, 0, none⟩)), (3, v1), (4, .bool s77.2.1), (5, .int .i64 s71.2.2), (14, va1), (15, .int .i64 (p0a.2.2.length : Int)), (16, .int .i64 s71.2.2), (21, v10), (22, .int .i64 (x201.length : Int)), (23, .int .i64 s77.2.2), (41, .bool false)]) ⟨rfl, rfl, rfl, rfl, rfl, rfl, rfl, rfl, rfl, rfl, rfl, trivial⟩
                          refine nrm ?_
                          refine cnd_false (b := false) haq2453 rfl rfl rfl ?_
                          refine wp_skip ?_
                          refine nrmB ?_
                          refine nrm ?_
                          obtain rfl := Option.some.inj hm
                          exact ⟨haq2453.pick' ⟨rfl, rfl, rfl, rfl, rfl, rfl, rfl, rfl, rfl, rfl, trivial⟩, St.sel hsq2453 3 [0, 1, 2] rfl rfl⟩
                        · replace hm := ifTe hb199 hm
                          refine seq_op_g0 (g := 8) (d := 35) (want := true) (b := x223) haq2447 hsq2447 rfl rfl rfl hb199 (opT_move (v := v1) rfl rfl) rfl ?_
                          rintro u aq2454 wq2454 hf haq2454 hsq2454
                          obtain rfl := Eq.symm hf
                          clear haq2447 hsq2447 aq2447 wq2447
                          refine seq_op_g0 (g := 8) (d := 35) (want := true) (b := x223) haq2454 hsq2454 rfl rfl rfl hb199 (opT_move (v := .int .i64 s71.2.2) rfl rfl) rfl ?_
                          rintro u aq2455 wq2455 hf haq2455 hsq2455
                          obtain rfl := Eq.symm hf
                          clear haq2454 hsq2454 aq2454 wq2454
                          obtain ⟨x224, e225, hm⟩ := bind_some hm
                          refine seq_op_g0 (g := 8) (d := 35) (want := true) (b := x223) haq2455 hsq2455 rfl rfl rfl hb199 (opT_index_hd (xs := s77.1) (i := s71.2.2) (n := 1) (St.hd hsq2455 0 rfl).1 Try.underlying22 ti4 rfl rfl rfl (getI_in e225)) rfl ?_
                          rintro u aq2456 wq2456 hf haq2456 hsq2456
                          obtain rfl := Eq.symm hf
                          clear haq2455 hsq2455 aq2455 wq2455
                          refine seq_op_g (g := 8) (d := 35) (want := true) (b := x223) haq2456 hsq2456 rfl rfl rfl hb199 (opT_load_own (E := 4) (R := rBool) (S := rBool) (xs := s77.1) (a := x224) (i := s71.2.2) (k := 1) (off := 0) (f := fun (x : Bool) => x) sh_bool e225 Fld.self ti4 rfl rfl rfl rfl rfl) (perm_front (i := 0) rfl) rfl ?_
                          rintro u aq2457 wq2457 hf haq2457 (hsq2457 : St I w0 wq2457 [Ch.own (rSlice 4 rBool) [v1] s77.1, Ch.blk g1 [.int .i64 p0a.1, va0, va1] 27, F])
                          obtain rfl := lds_one hf
                          clear haq2456 hsq2456 aq2456 wq2456
                          refine seq_op_g0 (g := 8) (d := 35) (want := true) (b := x223) haq2457 hsq2457 rfl rfl rfl hb199 (opT_not (b := x224) rfl rfl) rfl ?_
                          rintro u aq2458 wq2458 hf haq2458 hsq2458
                          obtain rfl := Eq.symm hf
                          clear haq2457 hsq2457 aq2457 wq2457
                          refine seq_op0 haq2458 hsq2458 (opT_pick (b := x223) (v := .bool (!x224)) rfl rfl (ifT hb199)) rfl rfl ?_
                          rintro u aq2459 wq2459 hf haq2459 hsq2459
                          obtain rfl := Eq.symm hf
                          clear haq2458 hsq2458 aq2458 wq2458
                          refine wpList_nil ?_
                          replace haq2459 := haq2459.pick' (L' := [(1, .pointer (some ⟨g1, 0, none⟩)), (3, v1), (4, .bool s77.2.1), (5, .int .i64 s71.2.2), (14, va1), (15, .int .i64 (p0a.2.2.length : Int)), (16, .int .i64 s71.2.2), (21, v10), (22, .int .i64 (x201.length : Int)), (23, .int .i64 s77.2.2), (41, .bool (!x224))]) ⟨rfl, rfl, rfl, rfl, rfl, rfl, rfl, rfl, rfl, rfl, rfl, trivial⟩
                          refine nrm ?_
                          rcases two (x224) with hb200 | hb200
                          · replace hm := ifFe hb200 hm
                            refine cnd_true (b := !x224) haq2459 rfl rfl (notT hb200) ?_
                            refine wp_seq ?_
                            refine wp_region_lit ?_
                            refine seq_op0 haq2459 hsq2459 (opT_move (v := v1) rfl rfl) rfl rfl ?_
                            rintro u aq2460 wq2460 hf haq2460 hsq2460
                            obtain rfl := Eq.symm hf
                            clear haq2459 hsq2459 aq2459 wq2459
                            refine seq_op0 haq2460 hsq2460 (opT_move (v := .int .i64 s71.2.2) rfl rfl) rfl rfl ?_
                            rintro u aq2461 wq2461 hf haq2461 hsq2461
                            obtain rfl := Eq.symm hf
                            clear haq2460 hsq2460 aq2460 wq2460
                            obtain ⟨x225, e226, hm⟩ := bind_some hm
                            refine seq_op0 haq2461 hsq2461 (opT_index_hd (xs := s77.1) (i := s71.2.2) (n := 1) (St.hd hsq2461 0 rfl).1 Try.underlying22 ti4 rfl rfl rfl (getI_in e226)) rfl rfl ?_
                            rintro u aq2462 wq2462 hf haq2462 hsq2462
                            obtain rfl := Eq.symm hf
                            clear haq2461 hsq2461 aq2461 wq2461
                            refine seq_op haq2462 hsq2462 rfl (opT_store_el (E := 4) (R := rBool) (S := rBool) (xs := s77.1) (a := x225) (b := true) (i := s71.2.2) (k := 1) (off := 0) (f := fun x y => y) (v := v1) (d := [.bool true]) (u := .bool true) sh_bool cpy_bool e226 Upd.self ti4 rfl rfl rfl rfl (allC rfl allN) rfl rfl (by decide) rfl) (perm_front (i := 0) rfl) rfl ?_
                            rintro _ aq2463 wq2463 - haq2463 (hsq2463 : St I w0 wq2463 [Ch.own (rSlice 4 rBool) [v1] (s77.1.set s71.2.2.toNat true), Ch.blk g1 [.int .i64 p0a.1, va0, va1] 27, F])
                            clear haq2462 hsq2462 aq2462 wq2462
                            refine wpList_nil ?_
                            replace haq2463 := haq2463.pick' (L' := [(1, .pointer (some ⟨g1, 0, none⟩)), (3, v1), (5, .int .i64 s71.2.2), (14, va1), (15, .int .i64 (p0a.2.2.length : Int)), (16, .int .i64 s71.2.2), (21, v10), (22, .int .i64 (x201.length : Int)), (23, .int .i64 s77.2.2)]) ⟨rfl, rfl, rfl, rfl, rfl, rfl, rfl, rfl, rfl, trivial⟩
                            refine nrm ?_
                            refine wp_region_lit ?_
                            refine seq_op0 haq2463 hsq2463 (opT_assign (v := .bool true) rfl rfl) rfl rfl ?_
                            rintro u aq2464 wq2464 hf haq2464 hsq2464
                            obtain rfl := Eq.symm hf
                            clear haq2463 hsq2463 aq2463 wq2463
                            refine wpList_nil ?_
                            replace haq2464 := haq2464.pick' (L' := [(1, .pointer (some ⟨g1, 0, none⟩)), (3, v1), (4, .bool true), (5, .int .i64 s71.2.2), (14, va1), (15, .int .i64 (p0a.2.2.length : Int)), (16, .int .i64 s71.2.2), (21, v10), (22, .int .i64 (x201.length : Int)), (23, .int .i64 s77.2.2)]) ⟨rfl, rfl, rfl, rfl, rfl, rfl, rfl, rfl, rfl, rfl, trivial⟩
                            refine nrmB ?_
                            refine nrm ?_
                            obtain rfl := Option.some.inj hm
                            exact ⟨haq2464.pick' ⟨rfl, rfl, rfl, rfl, rfl, rfl, rfl, rfl, rfl, rfl, trivial⟩, St.sel hsq2464 3 [0, 1, 2] rfl rfl⟩
                          · replace hm := ifTe hb200 hm
                            refine cnd_false (b := !x224) haq2459 rfl rfl (notF hb200) ?_
                            refine wp_skip ?_
                            refine nrmB ?_
                            refine nrm ?_
                            obtain rfl := Option.some.inj hm
                            exact ⟨haq2459.pick' ⟨rfl, rfl, rfl, rfl, rfl, rfl, rfl, rfl, rfl, rfl, trivial⟩, St.sel hsq2459 3 [0, 1, 2] rfl rfl⟩
                    · rintro aq2465 wq2465 ⟨haq2465, hsq2465⟩
                      refine wp_region_lit ?_
                      refine seq_op0 haq2465 hsq2465 (opT_add (m := s77.2.2) (n := 1) rfl rfl rfl) rfl rfl ?_
                      rintro u aq2466 wq2466 hf haq2466 hsq2466
                      obtain rfl := Eq.symm hf
                      clear haq2465 hsq2465 aq2465 wq2465
                      refine seq_op0 haq2466 hsq2466 (opT_move (v := .int .i64 (IntKind.i64.wrap (s77.2.2 + 1))) rfl rfl) rfl rfl ?_
                      rintro u aq2467 wq2467 hf haq2467 hsq2467
                      obtain rfl := Eq.symm hf
                      clear haq2466 hsq2466 aq2466 wq2466
                      refine wpList_nil ?_
                      replace haq2467 := haq2467.pick' (L' := [(1, .pointer (some ⟨g1, 0, none⟩)), (3, v1), (4, .bool s79.2), (5, .int .i64 s71.2.2), (14, va1), (15, .int .i64 (p0a.2.2.length : Int)), (16, .int .i64 s71.2.2), (21, v10), (22, .int .i64 (x201.length : Int)), (23, .int .i64 (IntKind.i64.wrap (s77.2.2 + 1)))]) ⟨rfl, rfl, rfl, rfl, rfl, rfl, rfl, rfl, rfl, rfl, trivial⟩
                      refine nrm ?_
                      exact ⟨_, (Option.some.inj hm).symm, ⟨haq2467.pick' ⟨rfl, rfl, rfl, rfl, rfl, rfl, rfl, rfl, rfl, rfl, trivial⟩, St.sel hsq2467 3 [0, 1, 2] rfl rfl⟩⟩
              · rintro aq2468 wq2468 ⟨s78, ho38, haq2468, hsq2468⟩
                replace hm := loopOut ho38 hc39
                clear ho38 hc39 hl13
                refine nrmB ?_
                refine nrm ?_
                refine wp_region_lit ?_
                refine seq_op0 haq2468 hsq2468 (opT_add (m := s71.2.2) (n := 1) rfl rfl rfl) rfl rfl ?_
                rintro u aq2469 wq2469 hf haq2469 hsq2469
                obtain rfl := Eq.symm hf
                clear haq2468 hsq2468 aq2468 wq2468
                refine seq_op0 haq2469 hsq2469 (opT_move (v := .int .i64 (IntKind.i64.wrap (s71.2.2 + 1))) rfl rfl) rfl rfl ?_
                rintro u aq2470 wq2470 hf haq2470 hsq2470
                obtain rfl := Eq.symm hf
                clear haq2469 hsq2469 aq2469 wq2469
                refine wpList_nil ?_
                replace haq2470 := haq2470.pick' (L' := [(1, .pointer (some ⟨g1, 0, none⟩)), (3, v1), (4, .bool s78.2.1), (14, va1), (15, .int .i64 (p0a.2.2.length : Int)), (16, .int .i64 (IntKind.i64.wrap (s71.2.2 + 1)))]) ⟨rfl, rfl, rfl, rfl, rfl, rfl, trivial⟩
                refine nrm ?_
                exact ⟨_, (Option.some.inj hm).symm, ⟨haq2470.pick' ⟨rfl, rfl, rfl, rfl, rfl, rfl, trivial⟩, St.sel hsq2470 3 [0, 1, 2] rfl rfl⟩⟩
        · rintro aq2471 wq2471 ⟨s72, ho39, haq2471, hsq2471⟩
          replace hm := loopOut ho39 hc36
          clear ho39 hc36 hl12
          refine nrmB ?_
          refine nrm ?_
          exact ⟨_, (Option.some.inj hm).symm, ⟨haq2471.pick' ⟨rfl, rfl, rfl, trivial⟩, St.sel hsq2471 3 [0, 1, 2] rfl rfl⟩⟩
  · rintro aq2472 wq2472 ⟨s54, ho40, haq2472, hsq2472⟩
    replace hm := loopOut ho40 hc27
    clear ho40 hc27 hl9
    refine nrm ?_
    refine wp_seq ?_
    refine wp_region_lit ?_
    refine seq_op0 haq2472 hsq2472 (opT_move (v := v1) rfl rfl) rfl rfl ?_
    rintro u aq2473 wq2473 hf haq2473 hsq2473
    obtain rfl := Eq.symm hf
    clear haq2472 hsq2472 aq2472 wq2472
    refine seq_op0 haq2473 hsq2473 (opT_assign (v := v1) rfl rfl) rfl rfl ?_
    rintro u aq2474 wq2474 hf haq2474 hsq2474
    obtain rfl := Eq.symm hf
    clear haq2473 hsq2473 aq2473 wq2473
    refine wpList_nil ?_
    replace haq2474 := haq2474.pick' (L' := [(2, v1)]) ⟨rfl, trivial⟩
    refine nrm ?_
    refine wp_ret ?_
    obtain rfl := Option.some.inj hm
    exact ret_1 haq2474 rfl (res_tmp haq2474 rfl) ⟨_, rfl, trivial, _, Hp.le.rfl, St.sel (hsq2474) 2 [0, 1] rfl rfl⟩
set_option maxHeartbeats 8000000 in
theorem c_i_IsValidAutomaton (p0a : Int × (List Bool) × (List (List Int))) (r : Bool) (hm : m_i_IsValidAutomaton p0a = some r) {I : Hp} {w0 : World} (va0 : Value) (va1 : Value) (ra0 : (rSlice 4 rBool).rd I [va0] p0a.2.1) (ra1 : (rSlice 34 (rSlice 3 rInt)).rd I [va1] p0a.2.2) : Con Try.prog 51 #[.agg #[.int .i64 p0a.1, va0, va1]] I w0 [] (fun v => v = .bool r) (fun v => []) := by
  refine con_of_wp (n := 52) [(0, .agg #[.int .i64 p0a.1, va0, va1])] Try.func51 rfl rfl (Nat.le_of_ble_eq_true rfl) (args_all ⟨rfl, trivial⟩) (fun F w a ha hs => ?_) (fun v => trivial)
  unfold m_i_IsValidAutomaton at hm
  refine wp_seq ?_
  refine wp_region_lit ?_
  refine seq_op ha hs rfl (opT_box (u := .agg #[.int .i64 p0a.1, va0, va1]) (l := [.int .i64 p0a.1, va0, va1]) rfl rfl rfl) (List.Perm.refl _) rfl ?_
  rintro _ aq1 wq1 ⟨g1, rfl⟩ haq1 (hsq1 : St I w0 wq1 [Ch.blk g1 [.int .i64 p0a.1, va0, va1] 27, F])
  clear ha hs a w
  refine seq_op0 haq1 hsq1 (opT_assign (v := .bool false) rfl rfl) rfl rfl ?_
  rintro u aq2 wq2 hf haq2 hsq2
  obtain rfl := Eq.symm hf
  clear haq1 hsq1 aq1 wq1
  refine wpList_nil ?_
  replace haq2 := haq2.pick' (L' := [(1, .pointer (some ⟨g1, 0, none⟩))]) ⟨rfl, trivial⟩
  refine nrm ?_
  refine wp_seq ?_
  refine wp_region_lit ?_
  refine seq_op0 haq2 hsq2 (opT_field_addr (g := g1) (b := 0) tf27_1 rfl rfl) rfl rfl ?_
  rintro u aq3 wq3 hf haq3 hsq3
  obtain rfl := Eq.symm hf
  clear haq2 hsq2 aq2 wq2
  refine seq_op haq3 hsq3 rfl (opT_load_blk (g := g1) (off := 1) (E := 27) (l := [.int .i64 p0a.1, va0, va1]) (d := [va0]) (u := va0) ti22 rfl rfl rfl rfl rfl rfl) (perm_front (i := 0) rfl) rfl ?_
  rintro u aq4 wq4 hf haq4 (hsq4 : St I w0 wq4 [Ch.blk g1 [.int .i64 p0a.1, va0, va1] 27, F])
  obtain rfl := Eq.symm hf
  clear haq3 hsq3 aq3 wq3
  refine seq_op0 haq4 hsq4 (opT_len_hd (v := va0) (n := p0a.2.1.length) (Hd.of_rd ra0) Try.underlying22 rfl rfl) rfl rfl ?_
  rintro u aq5 wq5 hf haq5 hsq5
  obtain rfl := Eq.symm hf
  clear haq4 hsq4 aq4 wq4
  refine seq_op0 haq5 hsq5 (opT_assign (v := .int .i64 (p0a.2.1.length : Int)) rfl rfl) rfl rfl ?_
  rintro u aq6 wq6 hf haq6 hsq6
  obtain rfl := Eq.symm hf
  clear haq5 hsq5 aq5 wq5
  refine wpList_nil ?_
  replace haq6 := haq6.pick' (L' := [(1, .pointer (some ⟨g1, 0, none⟩)), (3, .int .i64 (p0a.2.1.length : Int))]) ⟨rfl, rfl, trivial⟩
  refine nrm ?_
  refine wp_seq ?_
  refine wp_seq ?_
  refine wp_region_lit ?_
  refine seq_op0 haq6 hsq6 (opT_move (v := .int .i64 (p0a.2.1.length : Int)) rfl rfl) rfl rfl ?_
  rintro u aq7 wq7 hf haq7 hsq7
  obtain rfl := Eq.symm hf
  clear haq6 hsq6 aq6 wq6
  obtain ⟨r1, e1, hm⟩ := bind_some hm
  refine seq_op0 haq7 hsq7 (opT_call (args := #[.int .i64 (p0a.2.1.length : Int), .int .i64 1, .int .i64 12]) (first := #[]) (captured := #[]) en95 rfl rfl rfl (c_i_within (p0a.2.1.length : Int) 1 12 _ e1  )) rfl rfl ?_
  rintro u aq8 wq8 hf haq8 hsq8
  obtain rfl := Eq.symm hf
  clear haq7 hsq7 aq7 wq7
  refine seq_op0 haq8 hsq8 (opT_not (b := r1) rfl rfl) rfl rfl ?_
  rintro u aq9 wq9 hf haq9 hsq9
  obtain rfl := Eq.symm hf
  clear haq8 hsq8 aq8 wq8
  refine seq_op0 haq9 hsq9 (opT_move (v := .bool (!r1)) rfl rfl) rfl rfl ?_
  rintro u aq10 wq10 hf haq10 hsq10
  obtain rfl := Eq.symm hf
  clear haq9 hsq9 aq9 wq9
  rcases two (r1) with hb1 | hb1
  · replace hm := ifFe hb1 hm
    refine seq_skip (g := 3) (d := 14) (want := false) (b := !r1) haq10 hsq10 rfl rfl rfl (notT hb1) rfl ?_
    intro aq11 haq11
    refine seq_skip (g := 3) (d := 14) (want := false) (b := !r1) haq11 hsq10 rfl rfl rfl (notT hb1) rfl ?_
    intro aq12 haq12
    refine seq_skip (g := 3) (d := 14) (want := false) (b := !r1) haq12 hsq10 rfl rfl rfl (notT hb1) rfl ?_
    intro aq13 haq13
    refine seq_skip (g := 3) (d := 14) (want := false) (b := !r1) haq13 hsq10 rfl rfl rfl (notT hb1) rfl ?_
    intro aq14 haq14
    refine seq_skip (g := 3) (d := 14) (want := false) (b := !r1) haq14 hsq10 rfl rfl rfl (notT hb1) rfl ?_
    intro aq15 haq15
    refine seq_skip (g := 3) (d := 14) (want := false) (b := !r1) haq15 hsq10 rfl rfl rfl (notT hb1) rfl ?_
    intro aq16 haq16
    refine seq_op0 haq16 hsq10 (opT_pick (b := !r1) (v := .bool true) rfl rfl (ifT (notT hb1))) rfl rfl ?_
    rintro u aq17 wq17 hf haq17 hsq17
    obtain rfl := Eq.symm hf
    clear haq16 hsq10 aq16 wq10
    refine seq_op0 haq17 hsq17 (opT_move (v := .bool true) rfl rfl) rfl rfl ?_
    rintro u aq18 wq18 hf haq18 hsq18
    obtain rfl := Eq.symm hf
    clear haq17 hsq17 aq17 wq17
    refine seq_skip (g := 11) (d := 22) (want := false) (b := true) haq18 hsq18 rfl rfl rfl rfl rfl ?_
    intro aq19 haq19
    refine seq_skip (g := 11) (d := 22) (want := false) (b := true) haq19 hsq18 rfl rfl rfl rfl rfl ?_
    intro aq20 haq20
    refine seq_skip (g := 11) (d := 22) (want := false) (b := true) haq20 hsq18 rfl rfl rfl rfl rfl ?_
    intro aq21 haq21
    refine seq_skip (g := 11) (d := 22) (want := false) (b := true) haq21 hsq18 rfl rfl rfl rfl rfl ?_
    intro aq22 haq22
    refine seq_skip (g := 11) (d := 22) (want := false) (b := true) haq22 hsq18 rfl rfl rfl rfl rfl ?_
    intro aq23 haq23
    refine seq_op0 haq23 hsq18 (opT_pick (b := true) (v := .bool true) rfl rfl (ifT rfl)) rfl rfl ?_
    rintro u aq24 wq24 hf haq24 hsq24
    obtain rfl := Eq.symm hf
    clear haq23 hsq18 aq23 wq18
    refine wpList_nil ?_
    replace haq24 := haq24.pick' (L' := [(1, .pointer (some ⟨g1, 0, none⟩)), (3, .int .i64 (p0a.2.1.length : Int)), (28, .bool true)]) ⟨rfl, rfl, rfl, trivial⟩
    refine nrm ?_
    refine cnd_true (b := true) haq24 rfl rfl rfl ?_
    refine wp_seq ?_
    refine wp_region_lit ?_
    refine seq_op0 haq24 hsq24 (opT_assign (v := .bool false) rfl rfl) rfl rfl ?_
    rintro u aq25 wq25 hf haq25 hsq25
    obtain rfl := Eq.symm hf
    clear haq24 hsq24 aq24 wq24
    refine wpList_nil ?_
    replace haq25 := haq25.pick' (L' := [(2, .bool false)]) ⟨rfl, trivial⟩
    refine nrm ?_
    refine wp_ret ?_
    refine thenR ?_
    obtain rfl := Option.some.inj hm
    exact ret_1 haq25 rfl (res_tmp haq25 rfl) ⟨_, rfl, rfl, _, Hp.le.rfl, St.sel (hsq25) 2 [1] rfl rfl⟩
  · replace hm := ifTe hb1 hm
    refine seq_op_g0 (g := 3) (d := 14) (want := false) (b := !r1) haq10 hsq10 rfl rfl rfl (notF hb1) (opT_field_addr (g := g1) (b := 0) tf27_0 rfl rfl) rfl ?_
    rintro u aq26 wq26 hf haq26 hsq26
    obtain rfl := Eq.symm hf
    clear haq10 hsq10 aq10 wq10
    refine seq_op_g (g := 3) (d := 14) (want := false) (b := !r1) haq26 hsq26 rfl rfl rfl (notF hb1) (opT_load_blk (g := g1) (off := 0) (E := 27) (l := [.int .i64 p0a.1, va0, va1]) (d := [.int .i64 p0a.1]) (u := .int .i64 p0a.1) ti3 rfl rfl rfl rfl rfl rfl) (perm_front (i := 0) rfl) rfl ?_
    rintro u aq27 wq27 hf haq27 (hsq27 : St I w0 wq27 [Ch.blk g1 [.int .i64 p0a.1, va0, va1] 27, F])
    obtain rfl := Eq.symm hf
    clear haq26 hsq26 aq26 wq26
    refine seq_op_g0 (g := 3) (d := 14) (want := false) (b := !r1) haq27 hsq27 rfl rfl rfl (notF hb1) (opT_move (v := .int .i64 (p0a.2.1.length : Int)) rfl rfl) rfl ?_
    rintro u aq28 wq28 hf haq28 hsq28
    obtain rfl := Eq.symm hf
    clear haq27 hsq27 aq27 wq27
    refine seq_op_g0 (g := 3) (d := 14) (want := false) (b := !r1) haq28 hsq28 rfl rfl rfl (notF hb1) (opT_sub (m := (p0a.2.1.length : Int)) (n := 1) rfl rfl rfl) rfl ?_
    rintro u aq29 wq29 hf haq29 hsq29
    obtain rfl := Eq.symm hf
    clear haq28 hsq28 aq28 wq28
    obtain ⟨r2, e2, hm⟩ := bind_some hm
    refine seq_op_g0 (g := 3) (d := 14) (want := false) (b := !r1) haq29 hsq29 rfl rfl rfl (notF hb1) (opT_call (args := #[.int .i64 p0a.1, .int .i64 0, .int .i64 (IntKind.i64.wrap ((p0a.2.1.length : Int) - 1))]) (first := #[]) (captured := #[]) en95 rfl rfl rfl (c_i_within p0a.1 0 (IntKind.i64.wrap ((p0a.2.1.length : Int) - 1)) _ e2  )) rfl ?_
    rintro u aq30 wq30 hf haq30 hsq30
    obtain rfl := Eq.symm hf
    clear haq29 hsq29 aq29 wq29
    refine seq_op_g0 (g := 3) (d := 14) (want := false) (b := !r1) haq30 hsq30 rfl rfl rfl (notF hb1) (opT_not (b := r2) rfl rfl) rfl ?_
    rintro u aq31 wq31 hf haq31 hsq31
    obtain rfl := Eq.symm hf
    clear haq30 hsq30 aq30 wq30
    refine seq_op0 haq31 hsq31 (opT_pick (b := !r1) (v := .bool (!r2)) rfl rfl (ifF (notF hb1))) rfl rfl ?_
    rintro u aq32 wq32 hf haq32 hsq32
    obtain rfl := Eq.symm hf
    clear haq31 hsq31 aq31 wq31
    refine seq_op0 haq32 hsq32 (opT_move (v := .bool (!r2)) rfl rfl) rfl rfl ?_
    rintro u aq33 wq33 hf haq33 hsq33
    obtain rfl := Eq.symm hf
    clear haq32 hsq32 aq32 wq32
    rcases two (r2) with hb2 | hb2
    · replace hm := ifFe hb2 hm
      refine seq_skip (g := 11) (d := 22) (want := false) (b := !r2) haq33 hsq33 rfl rfl rfl (notT hb2) rfl ?_
      intro aq34 haq34
      refine seq_skip (g := 11) (d := 22) (want := false) (b := !r2) haq34 hsq33 rfl rfl rfl (notT hb2) rfl ?_
      intro aq35 haq35
      refine seq_skip (g := 11) (d := 22) (want := false) (b := !r2) haq35 hsq33 rfl rfl rfl (notT hb2) rfl ?_
      intro aq36 haq36
      refine seq_skip (g := 11) (d := 22) (want := false) (b := !r2) haq36 hsq33 rfl rfl rfl (notT hb2) rfl ?_
      intro aq37 haq37
      refine seq_skip (g := 11) (d := 22) (want := false) (b := !r2) haq37 hsq33 rfl rfl rfl (notT hb2) rfl ?_
      intro aq38 haq38
      refine seq_op0 haq38 hsq33 (opT_pick (b := !r2) (v := .bool true) rfl rfl (ifT (notT hb2))) rfl rfl ?_
      rintro u aq39 wq39 hf haq39 hsq39
      obtain rfl := Eq.symm hf
      clear haq38 hsq33 aq38 wq33
      refine wpList_nil ?_
      replace haq39 := haq39.pick' (L' := [(1, .pointer (some ⟨g1, 0, none⟩)), (3, .int .i64 (p0a.2.1.length : Int)), (28, .bool true)]) ⟨rfl, rfl, rfl, trivial⟩
      refine nrm ?_
      refine cnd_true (b := true) haq39 rfl rfl rfl ?_
      refine wp_seq ?_
      refine wp_region_lit ?_
      refine seq_op0 haq39 hsq39 (opT_assign (v := .bool false) rfl rfl) rfl rfl ?_
      rintro u aq40 wq40 hf haq40 hsq40
      obtain rfl := Eq.symm hf
      clear haq39 hsq39 aq39 wq39
      refine wpList_nil ?_
      replace haq40 := haq40.pick' (L' := [(2, .bool false)]) ⟨rfl, trivial⟩
      refine nrm ?_
      refine wp_ret ?_
      refine thenR ?_
      obtain rfl := Option.some.inj hm
      exact ret_1 haq40 rfl (res_tmp haq40 rfl) ⟨_, rfl, rfl, _, Hp.le.rfl, St.sel (hsq40) 2 [1] rfl rfl⟩
    · replace hm := ifTe hb2 hm
      refine seq_op_g0 (g := 11) (d := 22) (want := false) (b := !r2) haq33 hsq33 rfl rfl rfl (notF hb2) (opT_field_addr (g := g1) (b := 0) tf27_2 rfl rfl) rfl ?_
      rintro u aq41 wq41 hf haq41 hsq41
      obtain rfl := Eq.symm hf
      clear haq33 hsq33 aq33 wq33
      refine seq_op_g (g := 11) (d := 22) (want := false) (b := !r2) haq41 hsq41 rfl rfl rfl (notF hb2) (opT_load_blk (g := g1) (off := 2) (E := 27) (l := [.int .i64 p0a.1, va0, va1]) (d := [va1]) (u := va1) ti23 rfl rfl rfl rfl rfl rfl) (perm_front (i := 0) rfl) rfl ?_
      rintro u aq42 wq42 hf haq42 (hsq42 : St I w0 wq42 [Ch.blk g1 [.int .i64 p0a.1, va0, va1] 27, F])
      obtain rfl := Eq.symm hf
      clear haq41 hsq41 aq41 wq41
      refine seq_op_g0 (g := 11) (d := 22) (want := false) (b := !r2) haq42 hsq42 rfl rfl rfl (notF hb2) (opT_len_hd (v := va1) (n := p0a.2.2.length) (Hd.of_rd ra1) Try.underlying23 rfl rfl) rfl ?_
      rintro u aq43 wq43 hf haq43 hsq43
      obtain rfl := Eq.symm hf
      clear haq42 hsq42 aq42 wq42
      refine seq_op_g0 (g := 11) (d := 22) (want := false) (b := !r2) haq43 hsq43 rfl rfl rfl (notF hb2) (opT_move (v := .int .i64 (p0a.2.1.length : Int)) rfl rfl) rfl ?_
      rintro u aq44 wq44 hf haq44 hsq44
      obtain rfl := Eq.symm hf
      clear haq43 hsq43 aq43 wq43
      refine seq_op_g0 (g := 11) (d := 22) (want := false) (b := !r2) haq44 hsq44 rfl rfl rfl (notF hb2) (opT_cmp (k := .i64) (m := (p0a.2.2.length : Int)) (n := (p0a.2.1.length : Int)) (c := (p0a.2.2.length : Int) != (p0a.2.1.length : Int)) rfl rfl rfl rfl rfl) rfl ?_
      rintro u aq45 wq45 hf haq45 hsq45
      obtain rfl := Eq.symm hf
      clear haq44 hsq44 aq44 wq44
      refine seq_op0 haq45 hsq45 (opT_pick (b := !r2) (v := .bool ((p0a.2.2.length : Int) != (p0a.2.1.length : Int))) rfl rfl (ifF (notF hb2))) rfl rfl ?_
      rintro u aq46 wq46 hf haq46 hsq46
      obtain rfl := Eq.symm hf
      clear haq45 hsq45 aq45 wq45
      refine wpList_nil ?_
      replace haq46 := haq46.pick' (L' := [(1, .pointer (some ⟨g1, 0, none⟩)), (3, .int .i64 (p0a.2.1.length : Int)), (28, .bool ((p0a.2.2.length : Int) != (p0a.2.1.length : Int)))]) ⟨rfl, rfl, rfl, trivial⟩
      refine nrm ?_
      rcases two ((p0a.2.2.length : Int) != (p0a.2.1.length : Int)) with hb3 | hb3
      · replace hm := ifFe hb3 hm
        refine cnd_false (b := (p0a.2.2.length : Int) != (p0a.2.1.length : Int)) haq46 rfl rfl hb3 ?_
        refine wp_skip ?_
        refine nrm ?_
        refine wp_seq ?_
        refine wp_seq ?_
        refine wp_region_lit ?_
        refine seq_op0 haq46 hsq46 (opT_field_addr (g := g1) (b := 0) tf27_2 rfl rfl) rfl rfl ?_
        rintro u aq47 wq47 hf haq47 hsq47
        obtain rfl := Eq.symm hf
        clear haq46 hsq46 aq46 wq46
        refine seq_op haq47 hsq47 rfl (opT_load_blk (g := g1) (off := 2) (E := 27) (l := [.int .i64 p0a.1, va0, va1]) (d := [va1]) (u := va1) ti23 rfl rfl rfl rfl rfl rfl) (perm_front (i := 0) rfl) rfl ?_
        rintro u aq48 wq48 hf haq48 (hsq48 : St I w0 wq48 [Ch.blk g1 [.int .i64 p0a.1, va0, va1] 27, F])
        obtain rfl := Eq.symm hf
        clear haq47 hsq47 aq47 wq47
        refine seq_op0 haq48 hsq48 (opT_len_hd (v := va1) (n := p0a.2.2.length) (Hd.of_rd ra1) Try.underlying23 rfl rfl) rfl rfl ?_
        rintro u aq49 wq49 hf haq49 hsq49
        obtain rfl := Eq.symm hf
        clear haq48 hsq48 aq48 wq48
        refine seq_op0 haq49 hsq49 (opT_move (v := .int .i64 0) rfl rfl) rfl rfl ?_
        rintro u aq50 wq50 hf haq50 hsq50
        obtain rfl := Eq.symm hf
        clear haq49 hsq49 aq49 wq49
        refine wpList_nil ?_
        replace haq50 := haq50.pick' (L' := [(3, .int .i64 (p0a.2.1.length : Int)), (30, va1), (31, .int .i64 (p0a.2.2.length : Int)), (32, .int .i64 0)]) ⟨rfl, rfl, rfl, rfl, trivial⟩
        refine nrm ?_
        obtain ⟨o5, hl3, hc3⟩ := bindL_some hm
        refine wp_cut (fun a w => ∃ s12 : Int, o5 = .brk s12 ∧ Agr 52 a [] ∧ St I w0 w [F]) ?_ ?_
        · refine wp_block (wp_loopM (R := Bool) (S := Int) (fun s11 a w => Agr 52 a [(3, .int .i64 (p0a.2.1.length : Int)), (30, va1), (31, .int .i64 (p0a.2.2.length : Int)), (32, .int .i64 s11)] ∧ St I w0 w [F]) hl3 ?_ ?_)
          · exact ⟨haq50.pick' ⟨rfl, rfl, rfl, rfl, trivial⟩, St.sel hsq50 2 [1] rfl rfl⟩
          · rintro s11 o6 hm hf3 aq153 wq153 ⟨haq153, hsq153⟩
            unfold m_i_IsValidAutomaton_l0 at hm
            refine wp_seq ?_
            refine wp_region_lit ?_
            refine seq_op0 haq153 hsq153 (opT_cmp (k := .i64) (m := s11) (n := (p0a.2.2.length : Int)) (c := decide (s11 < (p0a.2.2.length : Int))) rfl rfl rfl rfl rfl) rfl rfl ?_
            rintro u aq154 wq154 hf haq154 hsq154
            obtain rfl := Eq.symm hf
            clear haq153 hsq153 aq153 wq153
            refine wpList_nil ?_
            replace haq154 := haq154.pick' (L' := [(3, .int .i64 (p0a.2.1.length : Int)), (30, va1), (31, .int .i64 (p0a.2.2.length : Int)), (32, .int .i64 s11), (33, .bool (decide (s11 < (p0a.2.2.length : Int))))]) ⟨rfl, rfl, rfl, rfl, rfl, trivial⟩
            refine nrm ?_
            refine wp_seq ?_
            rcases two (decide (s11 < (p0a.2.2.length : Int))) with hb20 | hb20
            · replace hm := ifFe hb20 hm
              refine cnd_false (b := decide (s11 < (p0a.2.2.length : Int))) haq154 rfl rfl hb20 ?_
              refine wp_exit ?_
              refine thenX ?_
              refine thenX ?_
              refine ex_in ?_
              refine nrm ?_
              exact ⟨_, loopBrk hm hf3, ⟨haq154.pick' trivial, St.sel hsq154 1 [0] rfl rfl⟩⟩
            · replace hm := ifTe hb20 hm
              refine cnd_true (b := decide (s11 < (p0a.2.2.length : Int))) haq154 rfl rfl hb20 ?_
              refine wp_skip ?_
              refine nrm ?_
              refine wp_seq ?_
              refine wp_block ?_
              refine wp_seq ?_
              refine wp_region_lit ?_
              obtain ⟨x9, e17, hm⟩ := bind_some hm
              refine seq_op0 haq154 hsq154 (opT_index_hd (xs := p0a.2.2) (i := s11) (n := 1) (Hd.of_rd ra1) Try.underlying23 ti34 rfl rfl rfl (getI_in e17)) rfl rfl ?_
              rintro u aq155 wq155 hf haq155 hsq155
              obtain rfl := Eq.symm hf
              clear haq154 hsq154 aq154 wq154
              refine seq_op0 haq155 hsq155 (opT_load_el (S := rSlice 3 rInt) (xs := p0a.2.2) (a := x9) (i := s11) (k := 1) (off := 0) (f := fun (x : List Int) => x) ra1 e17 Fld.self ti34 rfl rfl rfl rfl rfl) rfl rfl ?_
              rintro v3 aq156 wq156 hf haq156 hsq156
              have r11 := lds_sl hf
              clear hf
              clear haq155 hsq155 aq155 wq155
              refine seq_op0 haq156 hsq156 (opT_assign (v := v3) rfl rfl) rfl rfl ?_
              rintro u aq157 wq157 hf haq157 hsq157
              obtain rfl := Eq.symm hf
              clear haq156 hsq156 aq156 wq156
              refine wpList_nil ?_
              replace haq157 := haq157.pick' (L' := [(3, .int .i64 (p0a.2.1.length : Int)), (5, v3), (30, va1), (31, .int .i64 (p0a.2.2.length : Int)), (32, .int .i64 s11)]) ⟨rfl, rfl, rfl, rfl, rfl, trivial⟩
              refine nrm ?_
              refine wp_seq ?_
              refine wp_seq ?_
              refine wp_region_lit ?_
              refine seq_op0 haq157 hsq157 (opT_move (v := v3) rfl rfl) rfl rfl ?_
              rintro u aq158 wq158 hf haq158 hsq158
              obtain rfl := Eq.symm hf
              clear haq157 hsq157 aq157 wq157
              refine seq_op0 haq158 hsq158 (opT_len_hd (v := v3) (n := x9.length) (Hd.of_rd r11) Try.underlying34 rfl rfl) rfl rfl ?_
              rintro u aq159 wq159 hf haq159 hsq159
              obtain rfl := Eq.symm hf
              clear haq158 hsq158 aq158 wq158
              refine seq_op0 haq159 hsq159 (opT_move (v := .int .i64 0) rfl rfl) rfl rfl ?_
              rintro u aq160 wq160 hf haq160 hsq160
              obtain rfl := Eq.symm hf
              clear haq159 hsq159 aq159 wq159
              refine wpList_nil ?_
              replace haq160 := haq160.pick' (L' := [(3, .int .i64 (p0a.2.1.length : Int)), (5, v3), (30, va1), (31, .int .i64 (p0a.2.2.length : Int)), (32, .int .i64 s11), (36, v3), (37, .int .i64 (x9.length : Int)), (38, .int .i64 0)]) ⟨rfl, rfl, rfl, rfl, rfl, rfl, rfl, rfl, trivial⟩
              refine nrm ?_
              obtain ⟨o7, hl4, hc4⟩ := bindL_some hm
              refine wp_cut (fun a w => ∃ s16 : Int, o7 = .brk s16 ∧ Agr 52 a [(3, .int .i64 (p0a.2.1.length : Int)), (5, v3), (30, va1), (31, .int .i64 (p0a.2.2.length : Int)), (32, .int .i64 s11)] ∧ St I w0 w [F]) ?_ ?_
              · refine wp_block (wp_loopM (R := Bool) (S := Int) (fun s15 a w => Agr 52 a [(3, .int .i64 (p0a.2.1.length : Int)), (5, v3), (30, va1), (31, .int .i64 (p0a.2.2.length : Int)), (32, .int .i64 s11), (36, v3), (37, .int .i64 (x9.length : Int)), (38, .int .i64 s15)] ∧ St I w0 w [F]) hl4 ?_ ?_)
                · exact ⟨haq160.pick' ⟨rfl, rfl, rfl, rfl, rfl, rfl, rfl, rfl, trivial⟩, St.sel hsq160 1 [0] rfl rfl⟩
                · rintro s15 o8 hm hf4 aq185 wq185 ⟨haq185, hsq185⟩
                  unfold m_i_IsValidAutomaton_l1 at hm
                  refine wp_seq ?_
                  refine wp_region_lit ?_
                  refine seq_op0 haq185 hsq185 (opT_cmp (k := .i64) (m := s15) (n := (x9.length : Int)) (c := decide (s15 < (x9.length : Int))) rfl rfl rfl rfl rfl) rfl rfl ?_
                  rintro u aq186 wq186 hf haq186 hsq186
                  obtain rfl := Eq.symm hf
                  clear haq185 hsq185 aq185 wq185
                  refine wpList_nil ?_
                  replace haq186 := haq186.pick' (L' := [(3, .int .i64 (p0a.2.1.length : Int)), (5, v3), (30, va1), (31, .int .i64 (p0a.2.2.length : Int)), (32, .int .i64 s11), (36, v3), (37, .int .i64 (x9.length : Int)), (38, .int .i64 s15), (39, .bool (decide (s15 < (x9.length : Int))))]) ⟨rfl, rfl, rfl, rfl, rfl, rfl, rfl, rfl, rfl, trivial⟩
                  refine nrm ?_
                  refine wp_seq ?_
                  rcases two (decide (s15 < (x9.length : Int))) with hb25 | hb25
                  · replace hm := ifFe hb25 hm
                    refine cnd_false (b := decide (s15 < (x9.length : Int))) haq186 rfl rfl hb25 ?_
                    refine wp_exit ?_
                    refine thenX ?_
                    refine thenX ?_
                    refine ex_in ?_
                    refine nrm ?_
                    exact ⟨_, loopBrk hm hf4, ⟨haq186.pick' ⟨rfl, rfl, rfl, rfl, rfl, trivial⟩, St.sel hsq186 1 [0] rfl rfl⟩⟩
                  · replace hm := ifTe hb25 hm
                    refine cnd_true (b := decide (s15 < (x9.length : Int))) haq186 rfl rfl hb25 ?_
                    refine wp_skip ?_
                    refine nrm ?_
                    refine wp_seq ?_
                    refine wp_block ?_
                    refine wp_seq ?_
                    refine wp_region_lit ?_
                    obtain ⟨x12, e22, hm⟩ := bind_some hm
                    refine seq_op0 haq186 hsq186 (opT_index_hd (xs := x9) (i := s15) (n := 1) (Hd.of_rd r11) Try.underlying34 ti3 rfl rfl rfl (getI_in e22)) rfl rfl ?_
                    rintro u aq187 wq187 hf haq187 hsq187
                    obtain rfl := Eq.symm hf
                    clear haq186 hsq186 aq186 wq186
                    refine seq_op0 haq187 hsq187 (opT_load_el (S := rInt) (xs := x9) (a := x12) (i := s15) (k := 1) (off := 0) (f := fun (x : Int) => x) r11 e22 Fld.self ti3 rfl rfl rfl rfl rfl) rfl rfl ?_
                    rintro u aq188 wq188 hf haq188 hsq188
                    obtain rfl := lds_one hf
                    clear haq187 hsq187 aq187 wq187
                    refine seq_op0 haq188 hsq188 (opT_assign (v := .int .i64 x12) rfl rfl) rfl rfl ?_
                    rintro u aq189 wq189 hf haq189 hsq189
                    obtain rfl := Eq.symm hf
                    clear haq188 hsq188 aq188 wq188
                    refine wpList_nil ?_
                    replace haq189 := haq189.pick' (L' := [(3, .int .i64 (p0a.2.1.length : Int)), (5, v3), (7, .int .i64 x12), (30, va1), (31, .int .i64 (p0a.2.2.length : Int)), (32, .int .i64 s11), (36, v3), (37, .int .i64 (x9.length : Int)), (38, .int .i64 s15)]) ⟨rfl, rfl, rfl, rfl, rfl, rfl, rfl, rfl, rfl, trivial⟩
                    refine nrm ?_
                    refine wp_seq ?_
                    refine wp_region_lit ?_
                    refine seq_op0 haq189 hsq189 (opT_move (v := .int .i64 x12) rfl rfl) rfl rfl ?_
                    rintro u aq190 wq190 hf haq190 hsq190
                    obtain rfl := Eq.symm hf
                    clear haq189 hsq189 aq189 wq189
                    refine seq_op0 haq190 hsq190 (opT_move (v := .int .i64 (p0a.2.1.length : Int)) rfl rfl) rfl rfl ?_
                    rintro u aq191 wq191 hf haq191 hsq191
                    obtain rfl := Eq.symm hf
                    clear haq190 hsq190 aq190 wq190
                    refine seq_op0 haq191 hsq191 (opT_sub (m := (p0a.2.1.length : Int)) (n := 1) rfl rfl rfl) rfl rfl ?_
                    rintro u aq192 wq192 hf haq192 hsq192
                    obtain rfl := Eq.symm hf
                    clear haq191 hsq191 aq191 wq191
                    obtain ⟨r14, e23, hm⟩ := bind_some hm
                    refine seq_op0 haq192 hsq192 (opT_call (args := #[.int .i64 x12, .int .i64 (-1), .int .i64 (IntKind.i64.wrap ((p0a.2.1.length : Int) - 1))]) (first := #[]) (captured := #[]) en95 rfl rfl rfl (c_i_within x12 (-1) (IntKind.i64.wrap ((p0a.2.1.length : Int) - 1)) _ e23  )) rfl rfl ?_
                    rintro u aq193 wq193 hf haq193 hsq193
                    obtain rfl := Eq.symm hf
                    clear haq192 hsq192 aq192 wq192
                    refine seq_op0 haq193 hsq193 (opT_not (b := r14) rfl rfl) rfl rfl ?_
                    rintro u aq194 wq194 hf haq194 hsq194
                    obtain rfl := Eq.symm hf
                    clear haq193 hsq193 aq193 wq193
                    refine wpList_nil ?_
                    replace haq194 := haq194.pick' (L' := [(3, .int .i64 (p0a.2.1.length : Int)), (5, v3), (30, va1), (31, .int .i64 (p0a.2.2.length : Int)), (32, .int .i64 s11), (36, v3), (37, .int .i64 (x9.length : Int)), (38, .int .i64 s15), (46, .bool (!r14))]) ⟨rfl, rfl, rfl, rfl, rfl, rfl, rfl, rfl, rfl, trivial⟩
                    refine nrm ?_
                    rcases two (r14) with hb26 | hb26
                    · replace hm := ifFe hb26 hm
                      refine cnd_true (b := !r14) haq194 rfl rfl (notT hb26) ?_
                      refine wp_seq ?_
                      refine wp_region_lit ?_
                      refine seq_op0 haq194 hsq194 (opT_assign (v := .bool false) rfl rfl) rfl rfl ?_
                      rintro u aq195 wq195 hf haq195 hsq195
                      obtain rfl := Eq.symm hf
                      clear haq194 hsq194 aq194 wq194
                      refine wpList_nil ?_
                      replace haq195 := haq195.pick' (L' := [(2, .bool false)]) ⟨rfl, trivial⟩
                      refine nrm ?_
                      refine wp_ret ?_
                      refine blkR ?_
                      refine thenR ?_
                      refine thenR ?_
                      refine blkR ?_
                      refine thenR ?_
                      refine thenR ?_
                      refine blkR ?_
                      refine thenR ?_
                      refine thenR ?_
                      refine blkR ?_
                      refine thenR ?_
                      refine thenR ?_
                      replace hm := loopRet hm hf4 hc4
                      replace hm := loopRet hm hf3 hc3
                      obtain rfl := Option.some.inj hm
                      exact ret_1 haq195 rfl (res_tmp haq195 rfl) ⟨_, rfl, rfl, _, Hp.le.rfl, St.sel (hsq195) 1 [0] rfl rfl⟩
                    · replace hm := ifTe hb26 hm
                      refine cnd_false (b := !r14) haq194 rfl rfl (notF hb26) ?_
                      refine wp_skip ?_
                      refine nrmB ?_
                      refine nrm ?_
                      refine wp_region_lit ?_
                      refine seq_op0 haq194 hsq194 (opT_add (m := s15) (n := 1) rfl rfl rfl) rfl rfl ?_
                      rintro u aq196 wq196 hf haq196 hsq196
                      obtain rfl := Eq.symm hf
                      clear haq194 hsq194 aq194 wq194
                      refine seq_op0 haq196 hsq196 (opT_move (v := .int .i64 (IntKind.i64.wrap (s15 + 1))) rfl rfl) rfl rfl ?_
                      rintro u aq197 wq197 hf haq197 hsq197
                      obtain rfl := Eq.symm hf
                      clear haq196 hsq196 aq196 wq196
                      refine wpList_nil ?_
                      replace haq197 := haq197.pick' (L' := [(3, .int .i64 (p0a.2.1.length : Int)), (5, v3), (30, va1), (31, .int .i64 (p0a.2.2.length : Int)), (32, .int .i64 s11), (36, v3), (37, .int .i64 (x9.length : Int)), (38, .int .i64 (IntKind.i64.wrap (s15 + 1)))]) ⟨rfl, rfl, rfl, rfl, rfl, rfl, rfl, rfl, trivial⟩
                      refine nrm ?_
                      exact ⟨_, (Option.some.inj hm).symm, ⟨haq197.pick' ⟨rfl, rfl, rfl, rfl, rfl, rfl, rfl, rfl, trivial⟩, St.sel hsq197 1 [0] rfl rfl⟩⟩
              · rintro aq198 wq198 ⟨s16, ho3, haq198, hsq198⟩
                replace hm := loopOut ho3 hc4
                clear ho3 hc4 hl4
                refine nrm ?_
                refine wp_seq ?_
                refine wp_region_lit ?_
                refine seq_op0 haq198 hsq198 (opT_move (v := v3) rfl rfl) rfl rfl ?_
                rintro u aq199 wq199 hf haq199 hsq199
                obtain rfl := Eq.symm hf
                clear haq198 hsq198 aq198 wq198
                refine seq_op0 haq199 hsq199 (opT_len_hd (v := v3) (n := x9.length) (Hd.of_rd r11) Try.underlying34 rfl rfl) rfl rfl ?_
                rintro u aq200 wq200 hf haq200 hsq200
                obtain rfl := Eq.symm hf
                clear haq199 hsq199 aq199 wq199
                refine seq_op0 haq200 hsq200 (opT_cmp (k := .i64) (m := (x9.length : Int)) (n := 9) (c := (x9.length : Int) != 9) rfl rfl rfl rfl rfl) rfl rfl ?_
                rintro u aq201 wq201 hf haq201 hsq201
                obtain rfl := Eq.symm hf
                clear haq200 hsq200 aq200 wq200
                refine wpList_nil ?_
                replace haq201 := haq201.pick' (L' := [(3, .int .i64 (p0a.2.1.length : Int)), (30, va1), (31, .int .i64 (p0a.2.2.length : Int)), (32, .int .i64 s11), (50, .bool ((x9.length : Int) != 9))]) ⟨rfl, rfl, rfl, rfl, rfl, trivial⟩
                refine nrm ?_
                rcases two ((x9.length : Int) != 9) with hb27 | hb27
                · replace hm := ifFe hb27 hm
                  refine cnd_false (b := (x9.length : Int) != 9) haq201 rfl rfl hb27 ?_
                  refine wp_skip ?_
                  refine nrmB ?_
                  refine nrm ?_
                  refine wp_region_lit ?_
                  refine seq_op0 haq201 hsq201 (opT_add (m := s11) (n := 1) rfl rfl rfl) rfl rfl ?_
                  rintro u aq202 wq202 hf haq202 hsq202
                  obtain rfl := Eq.symm hf
                  clear haq201 hsq201 aq201 wq201
                  refine seq_op0 haq202 hsq202 (opT_move (v := .int .i64 (IntKind.i64.wrap (s11 + 1))) rfl rfl) rfl rfl ?_
                  rintro u aq203 wq203 hf haq203 hsq203
                  obtain rfl := Eq.symm hf
                  clear haq202 hsq202 aq202 wq202
                  refine wpList_nil ?_
                  replace haq203 := haq203.pick' (L' := [(3, .int .i64 (p0a.2.1.length : Int)), (30, va1), (31, .int .i64 (p0a.2.2.length : Int)), (32, .int .i64 (IntKind.i64.wrap (s11 + 1)))]) ⟨rfl, rfl, rfl, rfl, trivial⟩
                  refine nrm ?_
                  exact ⟨_, (Option.some.inj hm).symm, ⟨haq203.pick' ⟨rfl, rfl, rfl, rfl, trivial⟩, St.sel hsq203 1 [0] rfl rfl⟩⟩
                · replace hm := ifTe hb27 hm
                  refine cnd_true (b := (x9.length : Int) != 9) haq201 rfl rfl hb27 ?_
                  refine wp_seq ?_
                  refine wp_region_lit ?_
                  refine seq_op0 haq201 hsq201 (opT_assign (v := .bool false) rfl rfl) rfl rfl ?_
                  rintro u aq204 wq204 hf haq204 hsq204
                  obtain rfl := Eq.symm hf
                  clear haq201 hsq201 aq201 wq201
                  refine wpList_nil ?_
                  replace haq204 := haq204.pick' (L' := [(2, .bool false)]) ⟨rfl, trivial⟩
                  refine nrm ?_
                  refine wp_ret ?_
                  refine blkR ?_
                  refine thenR ?_
                  refine thenR ?_
                  refine blkR ?_
                  refine thenR ?_
                  refine thenR ?_
                  replace hm := loopRet hm hf3 hc3
                  obtain rfl := Option.some.inj hm
                  exact ret_1 haq204 rfl (res_tmp haq204 rfl) ⟨_, rfl, rfl, _, Hp.le.rfl, St.sel (hsq204) 1 [0] rfl rfl⟩
        · rintro aq205 wq205 ⟨s12, ho4, haq205, hsq205⟩
          replace hm := loopOut ho4 hc3
          clear ho4 hc3 hl3
          refine nrm ?_
          refine wp_seq ?_
          refine wp_region_lit ?_
          refine seq_op0 haq205 hsq205 (opT_assign (v := .bool true) rfl rfl) rfl rfl ?_
          rintro u aq206 wq206 hf haq206 hsq206
          obtain rfl := Eq.symm hf
          clear haq205 hsq205 aq205 wq205
          refine wpList_nil ?_
          replace haq206 := haq206.pick' (L' := [(2, .bool true)]) ⟨rfl, trivial⟩
          refine nrm ?_
          refine wp_ret ?_
          obtain rfl := Option.some.inj hm
          exact ret_1 haq206 rfl (res_tmp haq206 rfl) ⟨_, rfl, rfl, _, Hp.le.rfl, St.sel (hsq206) 1 [0] rfl rfl⟩
      · replace hm := ifTe hb3 hm
        refine cnd_true (b := (p0a.2.2.length : Int) != (p0a.2.1.length : Int)) haq46 rfl rfl hb3 ?_
        refine wp_seq ?_
        refine wp_region_lit ?_
        refine seq_op0 haq46 hsq46 (opT_assign (v := .bool false) rfl rfl) rfl rfl ?_
        rintro u aq207 wq207 hf haq207 hsq207
        obtain rfl := Eq.symm hf
        clear haq46 hsq46 aq46 wq46
        refine wpList_nil ?_
        replace haq207 := haq207.pick' (L' := [(2, .bool false)]) ⟨rfl, trivial⟩
        refine nrm ?_
        refine wp_ret ?_
        refine thenR ?_
        obtain rfl := Option.some.inj hm
        exact ret_1 haq207 rfl (res_tmp haq207 rfl) ⟨_, rfl, rfl, _, Hp.le.rfl, St.sel (hsq207) 2 [1] rfl rfl⟩
set_option maxHeartbeats 8000000 in
theorem c_g_math_bits_Mul (p0x : Int) (p1y : Int) (r : Int × Int) (hm : m_g_math_bits_Mul p0x p1y = some r) {I : Hp} {w0 : World} : Con Try.prog 171 #[.int .u64 p0x, .int .u64 p1y] I w0 [] (fun v => v = .tuple #[.int .u64 r.1, .int .u64 r.2]) (fun v => []) := by
  refine con_of_wp (n := 30) [(0, .int .u64 p0x), (1, .int .u64 p1y)] Try.func171 rfl rfl (Nat.le_of_ble_eq_true rfl) (args_all ⟨rfl, rfl, trivial⟩) (fun F w a ha hs => ?_) (fun v => trivial)
  unfold m_g_math_bits_Mul at hm
  refine wp_seq ?_
  refine wp_region_lit ?_
  refine seq_op0 ha hs (opT_assign (v := .int .u64 0) rfl rfl) rfl rfl ?_
  rintro u aq1 wq1 hf haq1 hsq1
  obtain rfl := Eq.symm hf
  clear ha hs a w
  refine seq_op0 haq1 hsq1 (opT_assign (v := .int .u64 0) rfl rfl) rfl rfl ?_
  rintro u aq2 wq2 hf haq2 hsq2
  obtain rfl := Eq.symm hf
  clear haq1 hsq1 aq1 wq1
  refine wpList_nil ?_
  replace haq2 := haq2.pick' (L' := [(0, .int .u64 p0x), (1, .int .u64 p1y)]) ⟨rfl, rfl, trivial⟩
  refine nrm ?_
  refine wp_seq ?_
  refine cnd_false (b := false) haq2 rfl rfl rfl ?_
  refine wp_skip ?_
  refine nrm ?_
  refine wp_seq ?_
  refine wp_region_lit ?_
  refine seq_op0 haq2 hsq2 (opT_move (v := .int .u64 p0x) rfl rfl) rfl rfl ?_
  rintro u aq3 wq3 hf haq3 hsq3
  obtain rfl := Eq.symm hf
  clear haq2 hsq2 aq2 wq2
  refine seq_op0 haq3 hsq3 (opT_move (v := .int .u64 p1y) rfl rfl) rfl rfl ?_
  rintro u aq4 wq4 hf haq4 hsq4
  obtain rfl := Eq.symm hf
  clear haq3 hsq3 aq3 wq3
  obtain ⟨r1, e1, hm⟩ := bind_some hm
  refine seq_op0 haq4 hsq4 (opT_call (args := #[.int .u64 p0x, .int .u64 p1y]) (first := #[]) (captured := #[]) en188 rfl rfl rfl (c_g_math_bits_Mul64 p0x p1y _ e1  )) rfl rfl ?_
  rintro u aq5 wq5 hf haq5 hsq5
  obtain rfl := Eq.symm hf
  clear haq4 hsq4 aq4 wq4
  refine seq_op0 haq5 hsq5 (opT_move (v := .tuple #[.int .u64 r1.1, .int .u64 r1.2]) rfl rfl) rfl rfl ?_
  rintro u aq6 wq6 hf haq6 hsq6
  obtain rfl := Eq.symm hf
  clear haq5 hsq5 aq5 wq5
  refine seq_op0 haq6 hsq6 (opT_extract (vs := #[.int .u64 r1.1, .int .u64 r1.2]) (v := .int .u64 r1.1) rfl rfl rfl) rfl rfl ?_
  rintro u aq7 wq7 hf haq7 hsq7
  obtain rfl := Eq.symm hf
  clear haq6 hsq6 aq6 wq6
  refine seq_op0 haq7 hsq7 (opT_extract (vs := #[.int .u64 r1.1, .int .u64 r1.2]) (v := .int .u64 r1.2) rfl rfl rfl) rfl rfl ?_
  rintro u aq8 wq8 hf haq8 hsq8
  obtain rfl := Eq.symm hf
  clear haq7 hsq7 aq7 wq7
  refine seq_op0 haq8 hsq8 (opT_assign (v := .int .u64 r1.1) rfl rfl) rfl rfl ?_
  rintro u aq9 wq9 hf haq9 hsq9
  obtain rfl := Eq.symm hf
  clear haq8 hsq8 aq8 wq8
  refine seq_op0 haq9 hsq9 (opT_assign (v := .int .u64 r1.2) rfl rfl) rfl rfl ?_
  rintro u aq10 wq10 hf haq10 hsq10
  obtain rfl := Eq.symm hf
  clear haq9 hsq9 aq9 wq9
  refine wpList_nil ?_
  replace haq10 := haq10.pick' (L' := [(8, .int .u64 r1.1), (9, .int .u64 r1.2)]) ⟨rfl, rfl, trivial⟩
  refine nrm ?_
  refine wp_seq ?_
  refine wp_region_lit ?_
  refine seq_op0 haq10 hsq10 (opT_move (v := .int .u64 r1.1) rfl rfl) rfl rfl ?_
  rintro u aq11 wq11 hf haq11 hsq11
  obtain rfl := Eq.symm hf
  clear haq10 hsq10 aq10 wq10
  refine seq_op0 haq11 hsq11 (opT_move (v := .int .u64 r1.2) rfl rfl) rfl rfl ?_
  rintro u aq12 wq12 hf haq12 hsq12
  obtain rfl := Eq.symm hf
  clear haq11 hsq11 aq11 wq11
  refine seq_op0 haq12 hsq12 (opT_assign (v := .int .u64 r1.1) rfl rfl) rfl rfl ?_
  rintro u aq13 wq13 hf haq13 hsq13
  obtain rfl := Eq.symm hf
  clear haq12 hsq12 aq12 wq12
  refine seq_op0 haq13 hsq13 (opT_assign (v := .int .u64 r1.2) rfl rfl) rfl rfl ?_
  rintro u aq14 wq14 hf haq14 hsq14
  obtain rfl := Eq.symm hf
  clear haq13 hsq13 aq13 wq13
  refine wpList_nil ?_
  replace haq14 := haq14.pick' (L' := [(4, .int .u64 r1.1), (5, .int .u64 r1.2)]) ⟨rfl, rfl, trivial⟩
  refine nrm ?_
  refine wp_ret ?_
  obtain rfl := Option.some.inj hm
  exact ret_2 haq14 rfl (res_tmp haq14 rfl) (res_tmp haq14 rfl) ⟨_, rfl, rfl, _, Hp.le.rfl, St.sel (hsq14) 1 [0] rfl rfl⟩
set_option maxHeartbeats 8000000 in
theorem c_i_Automaton_minimize_1 (p0class : Int) (q0 : List Int) (r : Int) (hm : m_i_Automaton_minimize_1 p0class q0 = some r) {I : Hp} {w0 : World} (g0_0 : Nat) (va1 : Value) (rb0 : I g0_0 = some (.cells #[va1] 34 (0, 0))) (ra1 : (rSlice 3 rInt).rd I [va1] q0) : Con Try.prog 111 #[.int .i64 p0class, .pointer (some ⟨g0_0, 0, none⟩)] I w0 [] (fun v => v = .int .i64 r) (fun v => []) := by
  refine con_of_wp (n := 7) [(0, .int .i64 p0class), (1, .pointer (some ⟨g0_0, 0, none⟩))] Try.func111 rfl rfl (Nat.le_of_ble_eq_true rfl) (args_all ⟨rfl, rfl, trivial⟩) (fun F w a ha hs => ?_) (fun v => trivial)
  unfold m_i_Automaton_minimize_1 at hm
  refine wp_seq ?_
  refine wp_region_lit ?_
  refine seq_op0 ha hs (opT_assign (v := .int .i64 0) rfl rfl) rfl rfl ?_
  rintro u aq1 wq1 hf haq1 hsq1
  obtain rfl := Eq.symm hf
  clear ha hs a w
  refine wpList_nil ?_
  replace haq1 := haq1.pick' (L' := [(0, .int .i64 p0class), (1, .pointer (some ⟨g0_0, 0, none⟩))]) ⟨rfl, rfl, trivial⟩
  refine nrm ?_
  refine wp_seq ?_
  refine wp_region_lit ?_
  refine seq_op0 haq1 hsq1 (opT_load_fro (g := g0_0) (off := 0) (l := [va1]) (d := [va1]) (u := va1) rb0 ti34 rfl rfl rfl rfl rfl rfl) rfl rfl ?_
  rintro u aq2 wq2 hf haq2 hsq2
  obtain rfl := Eq.symm hf
  clear haq1 hsq1 aq1 wq1
  refine seq_op0 haq2 hsq2 (opT_move (v := .int .i64 p0class) rfl rfl) rfl rfl ?_
  rintro u aq3 wq3 hf haq3 hsq3
  obtain rfl := Eq.symm hf
  clear haq2 hsq2 aq2 wq2
  obtain ⟨r1, e1, hm⟩ := bind_some hm
  refine seq_op0 haq3 hsq3 (opT_call (args := #[va1, .int .i64 p0class]) (first := #[]) (captured := #[]) en112 rfl rfl rfl (c_g_slices_Index_S_int_int q0 p0class _ e1 va1 ra1)) rfl rfl ?_
  rintro u aq4 wq4 hf haq4 hsq4
  obtain rfl := Eq.symm hf
  clear haq3 hsq3 aq3 wq3
  refine seq_op0 haq4 hsq4 (opT_assign (v := .int .i64 r1) rfl rfl) rfl rfl ?_
  rintro u aq5 wq5 hf haq5 hsq5
  obtain rfl := Eq.symm hf
  clear haq4 hsq4 aq4 wq4
  refine wpList_nil ?_
  replace haq5 := haq5.pick' (L' := [(3, .int .i64 r1)]) ⟨rfl, trivial⟩
  refine nrm ?_
  refine wp_ret ?_
  obtain rfl := Option.some.inj hm
  exact ret_1 haq5 rfl (res_tmp haq5 rfl) ⟨_, rfl, rfl, _, Hp.le.rfl, St.sel (hsq5) 1 [0] rfl rfl⟩
set_option maxHeartbeats 8000000 in
theorem c_i_Automaton_refine_1 (p0x : List Int) (q0 : List Int) (r : Bool) (hm : m_i_Automaton_refine_1 p0x q0 = some r) {I : Hp} {w0 : World} (va0 : Value) (g0_0 : Nat) (va2 : Value) (ra0 : (rSlice 3 rInt).rd I [va0] p0x) (rb0 : I g0_0 = some (.cells #[va2] 34 (0, 0))) (ra2 : (rSlice 3 rInt).rd I [va2] q0) : Con Try.prog 173 #[va0, .pointer (some ⟨g0_0, 0, none⟩)] I w0 [] (fun v => v = .bool r) (fun v => []) := by
  refine con_of_wp (n := 7) [(0, va0), (1, .pointer (some ⟨g0_0, 0, none⟩))] Try.func173 rfl rfl (Nat.le_of_ble_eq_true rfl) (args_all ⟨rfl, rfl, trivial⟩) (fun F w a ha hs => ?_) (fun v => trivial)
  unfold m_i_Automaton_refine_1 at hm
  refine wp_seq ?_
  refine wp_region_lit ?_
  refine seq_op0 ha hs (opT_assign (v := .bool false) rfl rfl) rfl rfl ?_
  rintro u aq1 wq1 hf haq1 hsq1
  obtain rfl := Eq.symm hf
  clear ha hs a w
  refine wpList_nil ?_
  replace haq1 := haq1.pick' (L' := [(0, va0), (1, .pointer (some ⟨g0_0, 0, none⟩))]) ⟨rfl, rfl, trivial⟩
  refine nrm ?_
  refine wp_seq ?_
  refine wp_region_lit ?_
  refine seq_op0 haq1 hsq1 (opT_move (v := va0) rfl rfl) rfl rfl ?_
  rintro u aq2 wq2 hf haq2 hsq2
  obtain rfl := Eq.symm hf
  clear haq1 hsq1 aq1 wq1
  refine seq_op0 haq2 hsq2 (opT_load_fro (g := g0_0) (off := 0) (l := [va2]) (d := [va2]) (u := va2) rb0 ti34 rfl rfl rfl rfl rfl rfl) rfl rfl ?_
  rintro u aq3 wq3 hf haq3 hsq3
  obtain rfl := Eq.symm hf
  clear haq2 hsq2 aq2 wq2
  obtain ⟨r1, e1, hm⟩ := bind_some hm
  refine seq_op0 haq3 hsq3 (opT_call (args := #[va0, va2]) (first := #[]) (captured := #[]) en109 rfl rfl rfl (c_g_slices_Equal_S_int_int p0x q0 _ e1 va0 va2 ra0 ra2)) rfl rfl ?_
  rintro u aq4 wq4 hf haq4 hsq4
  obtain rfl := Eq.symm hf
  clear haq3 hsq3 aq3 wq3
  refine seq_op0 haq4 hsq4 (opT_assign (v := .bool r1) rfl rfl) rfl rfl ?_
  rintro u aq5 wq5 hf haq5 hsq5
  obtain rfl := Eq.symm hf
  clear haq4 hsq4 aq4 wq4
  refine wpList_nil ?_
  replace haq5 := haq5.pick' (L' := [(3, .bool r1)]) ⟨rfl, trivial⟩
  refine nrm ?_
  refine wp_ret ?_
  obtain rfl := Option.some.inj hm
  exact ret_1 haq5 rfl (res_tmp haq5 rfl) ⟨_, rfl, rfl, _, Hp.le.rfl, St.sel (hsq5) 1 [0] rfl rfl⟩
end Go.Proofs.Ytcihbmdppgpmjaa.D
