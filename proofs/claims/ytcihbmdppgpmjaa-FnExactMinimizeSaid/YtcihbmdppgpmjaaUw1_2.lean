/- Printed by dec.py: models of functions and the walks that show them. -/
import Derived.Test.YtcihbmdppgpmjaaUw0_0
import Derived.Test.YtcihbmdppgpmjaaUw0_1
import Derived.Test.YtcihbmdppgpmjaaUw0_2
import Derived.Test.YtcihbmdppgpmjaaUw0_3
set_option linter.unusedVariables false
set_option linter.unusedSimpArgs false
set_option linter.unnecessarySimpa false
set_option maxRecDepth 100000
namespace Go.Proofs.Ytcihbmdppgpmjaa.D
open Go.RowKit
set_option maxHeartbeats 8000000 in
theorem c_i_Automaton_live (p0a : Int × (List Bool) × (List (List Int))) (r : List Bool) (hm : m_i_Automaton_live p0a = some r) {I : Hp} {w0 : World} (va0 : Value) (va1 : Value) (ra0 : (rSlice 4 rBool).rd I [va0] p0a.2.1) (ra1 : (rSlice 34 (rSlice 3 rInt)).rd I [va1] p0a.2.2) : Con Try.prog 96 #[.agg #[.int .i64 p0a.1, va0, va1]] I w0 [] (fun v => True) (fun v => [Ch.own (rSlice 4 rBool) [v] r]) := by
  refine con_of_wp (n := 48) [(0, .agg #[.int .i64 p0a.1, va0, va1])] Try.func96 rfl rfl (Nat.le_of_ble_eq_true rfl) (args_all ⟨rfl, trivial⟩) (fun F w a ha hs => ?_) (fun v => ⟨dp_own (dp_slice dp_bool), trivial⟩)
  unfold m_i_Automaton_live at hm
  refine wp_seq ?_
  refine wp_region_lit ?_
  refine seq_op ha hs rfl (opT_box (u := .agg #[.int .i64 p0a.1, va0, va1]) (l := [.int .i64 p0a.1, va0, va1]) rfl rfl rfl) (List.Perm.refl _) rfl ?_
  rintro _ a1 w1 ⟨g1, rfl⟩ A1 (S1 : St I w0 w1 [Ch.blk g1 [.int .i64 p0a.1, va0, va1] 27, F])
  clear ha hs a w
  refine sv A1 S1 (opT_assign (v := .slice none 0 0) rfl rfl) rfl rfl ?_
  clear A1 S1 a1 w1;intro a2 w2 A2 S2
  refine wpList_nil ?_
  replace A2 := A2.pick' (L' := [(1, .pointer (some ⟨g1, 0, none⟩))]) ⟨rfl, trivial⟩
  refine nrm ?_
  refine wp_seq ?_
  refine wp_region_lit ?_
  refine sv A2 S2 (opT_field_addr (g := g1) (b := 0) tf27_1 rfl rfl) rfl rfl ?_
  clear A2 S2 a2 w2;intro a3 w3 A3 S3
  refine seq_op A3 S3 rfl (opT_load_blk (g := g1) (off := 1) (E := 27) (l := [.int .i64 p0a.1, va0, va1]) (d := [va0]) (u := va0) ti22 rfl rfl rfl rfl rfl rfl) (perm_front (i := 0) rfl) rfl ?_
  rintro u a4 w4 hf A4 (S4 : St I w0 w4 [Ch.blk g1 [.int .i64 p0a.1, va0, va1] 27, F])
  obtain rfl := Eq.symm hf
  clear A3 S3 a3 w3
  obtain ⟨r1, e1, hm⟩ := bind_some hm
  refine seq_op A4 S4 rfl (opT_call (args := #[va0]) (first := #[]) (captured := #[]) en147 rfl rfl rfl (c_g_slices_Clone_S_bool_bool p0a.2.1 _ e1 va0 ra0)) (List.Perm.refl _) rfl ?_
  rintro v1 a5 w5 - A5 (S5 : St I w0 w5 [Ch.own (rSlice 4 rBool) [v1] r1, Ch.blk g1 [.int .i64 p0a.1, va0, va1] 27, F])
  clear A4 S4 a4 w4
  refine sv A5 S5 (opT_assign (v := v1) rfl rfl) rfl rfl ?_
  clear A5 S5 a5 w5;intro a6 w6 A6 S6
  refine wpList_nil ?_
  replace A6 := A6.pick' (L' := [(1, .pointer (some ⟨g1, 0, none⟩)), (3, v1)]) ⟨rfl, rfl, trivial⟩
  refine nrm ?_
  refine wp_seq ?_
  refine wp_seq ?_
  refine wp_region_lit ?_
  refine sv A6 S6 (opT_assign (v := .bool true) rfl rfl) rfl rfl ?_
  clear A6 S6 a6 w6;intro a7 w7 A7 S7
  refine wpList_nil ?_
  replace A7 := A7.pick' (L' := [(1, .pointer (some ⟨g1, 0, none⟩)), (3, v1), (4, .bool true)]) ⟨rfl, rfl, rfl, trivial⟩
  refine nrm ?_
  obtain ⟨o35, hl9, hc27⟩ := bindL_some hm
  refine wp_cut (fun a w => ∃ s54 : (List Bool) × Bool, o35 = .brk s54 ∧ Agr 48 a [(3, v1)] ∧ St I w0 w [Ch.own (rSlice 4 rBool) [v1] s54.1, F]) ?_ ?_
  · refine wp_block (wp_loopM (R := List Bool) (S := (List Bool) × Bool) (fun s53 a w => Agr 48 a [(1, .pointer (some ⟨g1, 0, none⟩)), (3, v1), (4, .bool s53.2)] ∧ St I w0 w [Ch.own (rSlice 4 rBool) [v1] s53.1, Ch.blk g1 [.int .i64 p0a.1, va0, va1] 27, F]) hl9 ?_ ?_)
    · exact ⟨A7.pick' ⟨rfl, rfl, rfl, trivial⟩, St.sel S7 3 [0, 1, 2] rfl rfl⟩
    · rintro s53 o36 hm hf9 a1650 w1650 ⟨A1650, S1650⟩
      unfold m_i_Automaton_live_l0 at hm
      refine wp_seq ?_
      refine wp_seq ?_
      refine wp_region_lit ?_
      refine sv A1650 S1650 (opT_move (v := .bool s53.2) rfl rfl) rfl rfl ?_
      clear A1650 S1650 a1650 w1650;intro a1651 w1651 A1651 S1651
      refine wpList_nil ?_
      replace A1651 := A1651.pick' (L' := [(1, .pointer (some ⟨g1, 0, none⟩)), (3, v1), (12, .bool s53.2)]) ⟨rfl, rfl, rfl, trivial⟩
      refine nrm ?_
      rcases two (s53.2) with hb134 | hb134
      · replace hm := ifFe hb134 hm
        refine cnd_false (b := s53.2) A1651 rfl rfl hb134 ?_
        refine wp_exit ?_
        refine thenX ?_
        refine thenX ?_
        refine ex_in ?_
        refine nrm ?_
        exact ⟨_, loopBrk hm hf9, ⟨A1651.pick' ⟨rfl, trivial⟩, St.sel S1651 3 [0, 2] rfl rfl⟩⟩
      · replace hm := ifTe hb134 hm
        refine cnd_true (b := s53.2) A1651 rfl rfl hb134 ?_
        refine wp_skip ?_
        refine nrm ?_
        refine wp_block ?_
        refine wp_seq ?_
        refine wp_region_lit ?_
        refine sv A1651 S1651 (opT_assign (v := .bool false) rfl rfl) rfl rfl ?_
        clear A1651 S1651 a1651 w1651;intro a1652 w1652 A1652 S1652
        refine wpList_nil ?_
        replace A1652 := A1652.pick' (L' := [(1, .pointer (some ⟨g1, 0, none⟩)), (3, v1), (4, .bool false)]) ⟨rfl, rfl, rfl, trivial⟩
        refine nrm ?_
        refine wp_seq ?_
        refine wp_region_lit ?_
        refine sv A1652 S1652 (opT_field_addr (g := g1) (b := 0) tf27_2 rfl rfl) rfl rfl ?_
        clear A1652 S1652 a1652 w1652;intro a1653 w1653 A1653 S1653
        refine seq_op A1653 S1653 rfl (opT_load_blk (g := g1) (off := 2) (E := 27) (l := [.int .i64 p0a.1, va0, va1]) (d := [va1]) (u := va1) ti23 rfl rfl rfl rfl rfl rfl) (perm_front (i := 1) rfl) rfl ?_
        rintro u a1654 w1654 hf A1654 (S1654 : St I w0 w1654 [Ch.blk g1 [.int .i64 p0a.1, va0, va1] 27, Ch.own (rSlice 4 rBool) [v1] s53.1, F])
        obtain rfl := Eq.symm hf
        clear A1653 S1653 a1653 w1653
        refine sv A1654 S1654 (opT_len_hd (v := va1) (n := p0a.2.2.length) (Hd.of_rd ra1) Try.underlying23 rfl rfl) rfl rfl ?_
        clear A1654 S1654 a1654 w1654;intro a1655 w1655 A1655 S1655
        refine sv A1655 S1655 (opT_move (v := .int .i64 0) rfl rfl) rfl rfl ?_
        clear A1655 S1655 a1655 w1655;intro a1656 w1656 A1656 S1656
        refine wpList_nil ?_
        replace A1656 := A1656.pick' (L' := [(1, .pointer (some ⟨g1, 0, none⟩)), (3, v1), (4, .bool false), (14, va1), (15, .int .i64 (p0a.2.2.length : Int)), (16, .int .i64 0)]) ⟨rfl, rfl, rfl, rfl, rfl, rfl, trivial⟩
        refine nrm ?_
        obtain ⟨o47, hl12, hc36⟩ := bindL_some hm
        refine wp_cut (fun a w => ∃ s72 : (List Bool) × Bool × Int, o47 = .brk s72 ∧ Agr 48 a [(1, .pointer (some ⟨g1, 0, none⟩)), (3, v1), (4, .bool s72.2.1)] ∧ St I w0 w [Ch.own (rSlice 4 rBool) [v1] s72.1, Ch.blk g1 [.int .i64 p0a.1, va0, va1] 27, F]) ?_ ?_
        · refine wp_block (wp_loopM (R := List Bool) (S := (List Bool) × Bool × Int) (fun s71 a w => Agr 48 a [(1, .pointer (some ⟨g1, 0, none⟩)), (3, v1), (4, .bool s71.2.1), (14, va1), (15, .int .i64 (p0a.2.2.length : Int)), (16, .int .i64 s71.2.2)] ∧ St I w0 w [Ch.own (rSlice 4 rBool) [v1] s71.1, Ch.blk g1 [.int .i64 p0a.1, va0, va1] 27, F]) hl12 ?_ ?_)
          · exact ⟨A1656.pick' ⟨rfl, rfl, rfl, rfl, rfl, rfl, trivial⟩, St.sel S1656 3 [1, 0, 2] rfl rfl⟩
          · rintro s71 o48 hm hf12 a2199 w2199 ⟨A2199, S2199⟩
            unfold m_i_Automaton_live_l1 at hm
            refine wp_seq ?_
            refine wp_region_lit ?_
            refine sv A2199 S2199 (opT_cmp (k := .i64) (m := s71.2.2) (n := (p0a.2.2.length : Int)) (c := decide (s71.2.2 < (p0a.2.2.length : Int))) rfl rfl rfl rfl rfl) rfl rfl ?_
            clear A2199 S2199 a2199 w2199;intro a2200 w2200 A2200 S2200
            refine wpList_nil ?_
            replace A2200 := A2200.pick' (L' := [(1, .pointer (some ⟨g1, 0, none⟩)), (3, v1), (4, .bool s71.2.1), (14, va1), (15, .int .i64 (p0a.2.2.length : Int)), (16, .int .i64 s71.2.2), (17, .bool (decide (s71.2.2 < (p0a.2.2.length : Int))))]) ⟨rfl, rfl, rfl, rfl, rfl, rfl, rfl, trivial⟩
            refine nrm ?_
            refine wp_seq ?_
            rcases two (decide (s71.2.2 < (p0a.2.2.length : Int))) with hb179 | hb179
            · replace hm := ifFe hb179 hm
              refine cnd_false (b := decide (s71.2.2 < (p0a.2.2.length : Int))) A2200 rfl rfl hb179 ?_
              refine wp_exit ?_
              refine thenX ?_
              refine thenX ?_
              refine ex_in ?_
              refine nrm ?_
              exact ⟨_, loopBrk hm hf12, ⟨A2200.pick' ⟨rfl, rfl, rfl, trivial⟩, St.sel S2200 3 [0, 1, 2] rfl rfl⟩⟩
            · replace hm := ifTe hb179 hm
              refine cnd_true (b := decide (s71.2.2 < (p0a.2.2.length : Int))) A2200 rfl rfl hb179 ?_
              refine wp_skip ?_
              refine nrm ?_
              refine wp_seq ?_
              refine wp_block ?_
              refine wp_seq ?_
              refine wp_region_lit ?_
              refine sv A2200 S2200 (opT_move (v := .int .i64 s71.2.2) rfl rfl) rfl rfl ?_
              clear A2200 S2200 a2200 w2200;intro a2201 w2201 A2201 S2201
              obtain ⟨x201, e202, hm⟩ := bind_some hm
              refine sv A2201 S2201 (opT_index_hd (xs := p0a.2.2) (i := s71.2.2) (n := 1) (Hd.of_rd ra1) Try.underlying23 ti34 rfl rfl rfl (getI_in e202)) rfl rfl ?_
              clear A2201 S2201 a2201 w2201;intro a2202 w2202 A2202 S2202
              refine seq_op0 A2202 S2202 (opT_load_el (S := rSlice 3 rInt) (xs := p0a.2.2) (a := x201) (i := s71.2.2) (k := 1) (off := 0) (f := fun (x : List Int) => x) ra1 e202 Fld.self ti34 rfl rfl rfl rfl rfl) rfl rfl ?_
              rintro v10 a2203 w2203 hf A2203 S2203
              have r10 := lds_sl hf
              clear hf
              clear A2202 S2202 a2202 w2202
              refine sv A2203 S2203 (opT_assign (v := .int .i64 s71.2.2) rfl rfl) rfl rfl ?_
              clear A2203 S2203 a2203 w2203;intro a2204 w2204 A2204 S2204
              refine sv A2204 S2204 (opT_assign (v := v10) rfl rfl) rfl rfl ?_
              clear A2204 S2204 a2204 w2204;intro a2205 w2205 A2205 S2205
              refine wpList_nil ?_
              replace A2205 := A2205.pick' (L' := [(1, .pointer (some ⟨g1, 0, none⟩)), (3, v1), (4, .bool s71.2.1), (5, .int .i64 s71.2.2), (6, v10), (14, va1), (15, .int .i64 (p0a.2.2.length : Int)), (16, .int .i64 s71.2.2)]) ⟨rfl, rfl, rfl, rfl, rfl, rfl, rfl, rfl, trivial⟩
              refine nrm ?_
              refine wp_seq ?_
              refine wp_region_lit ?_
              refine sv A2205 S2205 (opT_move (v := v10) rfl rfl) rfl rfl ?_
              clear A2205 S2205 a2205 w2205;intro a2206 w2206 A2206 S2206
              refine sv A2206 S2206 (opT_len_hd (v := v10) (n := x201.length) (Hd.of_rd r10) Try.underlying34 rfl rfl) rfl rfl ?_
              clear A2206 S2206 a2206 w2206;intro a2207 w2207 A2207 S2207
              refine sv A2207 S2207 (opT_move (v := .int .i64 0) rfl rfl) rfl rfl ?_
              clear A2207 S2207 a2207 w2207;intro a2208 w2208 A2208 S2208
              refine wpList_nil ?_
              replace A2208 := A2208.pick' (L' := [(1, .pointer (some ⟨g1, 0, none⟩)), (3, v1), (4, .bool s71.2.1), (5, .int .i64 s71.2.2), (14, va1), (15, .int .i64 (p0a.2.2.length : Int)), (16, .int .i64 s71.2.2), (21, v10), (22, .int .i64 (x201.length : Int)), (23, .int .i64 0)]) ⟨rfl, rfl, rfl, rfl, rfl, rfl, rfl, rfl, rfl, rfl, trivial⟩
              refine nrm ?_
              obtain ⟨o51, hl13, hc39⟩ := bindL_some hm
              refine wp_cut (fun a w => ∃ s78 : (List Bool) × Bool × Int, o51 = .brk s78 ∧ Agr 48 a [(1, .pointer (some ⟨g1, 0, none⟩)), (3, v1), (4, .bool s78.2.1), (14, va1), (15, .int .i64 (p0a.2.2.length : Int)), (16, .int .i64 s71.2.2)] ∧ St I w0 w [Ch.own (rSlice 4 rBool) [v1] s78.1, Ch.blk g1 [.int .i64 p0a.1, va0, va1] 27, F]) ?_ ?_
              · refine wp_block (wp_loopM (R := List Bool) (S := (List Bool) × Bool × Int) (fun s77 a w => Agr 48 a [(1, .pointer (some ⟨g1, 0, none⟩)), (3, v1), (4, .bool s77.2.1), (5, .int .i64 s71.2.2), (14, va1), (15, .int .i64 (p0a.2.2.length : Int)), (16, .int .i64 s71.2.2), (21, v10), (22, .int .i64 (x201.length : Int)), (23, .int .i64 s77.2.2)] ∧ St I w0 w [Ch.own (rSlice 4 rBool) [v1] s77.1, Ch.blk g1 [.int .i64 p0a.1, va0, va1] 27, F]) hl13 ?_ ?_)
                · exact ⟨A2208.pick' ⟨rfl, rfl, rfl, rfl, rfl, rfl, rfl, rfl, rfl, rfl, trivial⟩, St.sel S2208 3 [0, 1, 2] rfl rfl⟩
                · rintro s77 o52 hm hf13 a2381 w2381 ⟨A2381, S2381⟩
                  unfold m_i_Automaton_live_l2 at hm
                  refine wp_seq ?_
                  refine wp_region_lit ?_
                  refine sv A2381 S2381 (opT_cmp (k := .i64) (m := s77.2.2) (n := (x201.length : Int)) (c := decide (s77.2.2 < (x201.length : Int))) rfl rfl rfl rfl rfl) rfl rfl ?_
                  clear A2381 S2381 a2381 w2381;intro a2382 w2382 A2382 S2382
                  refine wpList_nil ?_
                  replace A2382 := A2382.pick' (L' := [(1, .pointer (some ⟨g1, 0, none⟩)), (3, v1), (4, .bool s77.2.1), (5, .int .i64 s71.2.2), (14, va1), (15, .int .i64 (p0a.2.2.length : Int)), (16, .int .i64 s71.2.2), (21, v10), (22, .int .i64 (x201.length : Int)), (23, .int .i64 s77.2.2), (24, .bool (decide (s77.2.2 < (x201.length : Int))))]) ⟨rfl, rfl, rfl, rfl, rfl, rfl, rfl, rfl, rfl, rfl, rfl, trivial⟩
                  refine nrm ?_
                  refine wp_seq ?_
                  rcases two (decide (s77.2.2 < (x201.length : Int))) with hb194 | hb194
                  · replace hm := ifFe hb194 hm
                    refine cnd_false (b := decide (s77.2.2 < (x201.length : Int))) A2382 rfl rfl hb194 ?_
                    refine wp_exit ?_
                    refine thenX ?_
                    refine thenX ?_
                    refine ex_in ?_
                    refine nrm ?_
                    exact ⟨_, loopBrk hm hf13, ⟨A2382.pick' ⟨rfl, rfl, rfl, rfl, rfl, rfl, trivial⟩, St.sel S2382 3 [0, 1, 2] rfl rfl⟩⟩
                  · replace hm := ifTe hb194 hm
                    refine cnd_true (b := decide (s77.2.2 < (x201.length : Int))) A2382 rfl rfl hb194 ?_
                    refine wp_skip ?_
                    refine nrm ?_
                    obtain ⟨s79, hj27, hm⟩ := bind_some hm
                    refine wp_seq_cut (fun a w => Agr 48 a [(1, .pointer (some ⟨g1, 0, none⟩)), (3, v1), (4, .bool s79.2), (5, .int .i64 s71.2.2), (14, va1), (15, .int .i64 (p0a.2.2.length : Int)), (16, .int .i64 s71.2.2), (21, v10), (22, .int .i64 (x201.length : Int)), (23, .int .i64 s77.2.2)] ∧ St I w0 w [Ch.own (rSlice 4 rBool) [v1] s79.1, Ch.blk g1 [.int .i64 p0a.1, va0, va1] 27, F]) ?_ ?_
                    · replace hm := hj27
                      refine wp_block ?_
                      refine wp_seq ?_
                      refine wp_region_lit ?_
                      obtain ⟨x222, e223, hm⟩ := bind_some hm
                      refine sv A2382 S2382 (opT_index_hd (xs := x201) (i := s77.2.2) (n := 1) (Hd.of_rd r10) Try.underlying34 ti3 rfl rfl rfl (getI_in e223)) rfl rfl ?_
                      clear A2382 S2382 a2382 w2382;intro a2424 w2424 A2424 S2424
                      refine seq_op0 A2424 S2424 (opT_load_el (S := rInt) (xs := x201) (a := x222) (i := s77.2.2) (k := 1) (off := 0) (f := fun (x : Int) => x) r10 e223 Fld.self ti3 rfl rfl rfl rfl rfl) rfl rfl ?_
                      rintro u a2425 w2425 hf A2425 S2425
                      obtain rfl := lds_one hf
                      clear A2424 S2424 a2424 w2424
                      refine sv A2425 S2425 (opT_assign (v := .int .i64 x222) rfl rfl) rfl rfl ?_
                      clear A2425 S2425 a2425 w2425;intro a2426 w2426 A2426 S2426
                      refine wpList_nil ?_
                      replace A2426 := A2426.pick' (L' := [(1, .pointer (some ⟨g1, 0, none⟩)), (3, v1), (4, .bool s77.2.1), (5, .int .i64 s71.2.2), (8, .int .i64 x222), (14, va1), (15, .int .i64 (p0a.2.2.length : Int)), (16, .int .i64 s71.2.2), (21, v10), (22, .int .i64 (x201.length : Int)), (23, .int .i64 s77.2.2)]) ⟨rfl, rfl, rfl, rfl, rfl, rfl, rfl, rfl, rfl, rfl, rfl, trivial⟩
                      refine nrm ?_
                      refine wp_seq ?_
                      refine wp_region_lit ?_
                      refine sv A2426 S2426 (opT_move (v := .int .i64 x222) rfl rfl) rfl rfl ?_
                      clear A2426 S2426 a2426 w2426;intro a2427 w2427 A2427 S2427
                      refine sv A2427 S2427 (opT_cmp (k := .i64) (m := x222) (n := 0) (c := decide (x222 ≥ 0)) rfl rfl rfl rfl rfl) rfl rfl ?_
                      clear A2427 S2427 a2427 w2427;intro a2428 w2428 A2428 S2428
                      refine sv A2428 S2428 (opT_move (v := .bool (decide (x222 ≥ 0))) rfl rfl) rfl rfl ?_
                      clear A2428 S2428 a2428 w2428;intro a2429 w2429 A2429 S2429
                      rcases two (decide (x222 ≥ 0)) with hb198 | hb198
                      · replace hm := ifFe hb198 hm
                        refine seq_skip (g := 2) (d := 29) (want := true) (b := decide (x222 ≥ 0)) A2429 S2429 rfl rfl rfl hb198 rfl ?_
                        intro a2430 A2430
                        refine seq_skip (g := 2) (d := 29) (want := true) (b := decide (x222 ≥ 0)) A2430 S2429 rfl rfl rfl hb198 rfl ?_
                        intro a2431 A2431
                        refine seq_skip (g := 2) (d := 29) (want := true) (b := decide (x222 ≥ 0)) A2431 S2429 rfl rfl rfl hb198 rfl ?_
                        intro a2432 A2432
                        refine seq_skip (g := 2) (d := 29) (want := true) (b := decide (x222 ≥ 0)) A2432 S2429 rfl rfl rfl hb198 rfl ?_
                        intro a2433 A2433
                        refine sv A2433 S2429 (opT_pick (b := decide (x222 ≥ 0)) (v := .bool false) rfl rfl (ifF hb198)) rfl rfl ?_
                        clear A2433 S2429 a2433 w2429;intro a2434 w2434 A2434 S2434
                        refine sv A2434 S2434 (opT_move (v := .bool false) rfl rfl) rfl rfl ?_
                        clear A2434 S2434 a2434 w2434;intro a2435 w2435 A2435 S2435
                        refine seq_skip (g := 8) (d := 35) (want := true) (b := false) A2435 S2435 rfl rfl rfl rfl rfl ?_
                        intro a2436 A2436
                        refine seq_skip (g := 8) (d := 35) (want := true) (b := false) A2436 S2435 rfl rfl rfl rfl rfl ?_
                        intro a2437 A2437
                        refine seq_skip (g := 8) (d := 35) (want := true) (b := false) A2437 S2435 rfl rfl rfl rfl rfl ?_
                        intro a2438 A2438
                        refine seq_skip (g := 8) (d := 35) (want := true) (b := false) A2438 S2435 rfl rfl rfl rfl rfl ?_
                        intro a2439 A2439
                        refine seq_skip (g := 8) (d := 35) (want := true) (b := false) A2439 S2435 rfl rfl rfl rfl rfl ?_
                        intro a2440 A2440
                        refine sv A2440 S2435 (opT_pick (b := false) (v := .bool false) rfl rfl (ifF rfl)) rfl rfl ?_
                        clear A2440 S2435 a2440 w2435;intro a2441 w2441 A2441 S2441
                        refine wpList_nil ?_
                        replace A2441 := A2441.pick' (L' := [(1, .pointer (some ⟨g1, 0, none⟩)), (3, v1), (4, .bool s77.2.1), (5, .int .i64 s71.2.2), (14, va1), (15, .int .i64 (p0a.2.2.length : Int)), (16, .int .i64 s71.2.2), (21, v10), (22, .int .i64 (x201.length : Int)), (23, .int .i64 s77.2.2), (41, .bool false)]) ⟨rfl, rfl, rfl, rfl, rfl, rfl, rfl, rfl, rfl, rfl, rfl, trivial⟩
                        refine nrm ?_
                        refine cnd_false (b := false) A2441 rfl rfl rfl ?_
                        refine wp_skip ?_
                        refine nrmB ?_
                        refine nrm ?_
                        obtain rfl := Option.some.inj hm
                        exact ⟨A2441.pick' ⟨rfl, rfl, rfl, rfl, rfl, rfl, rfl, rfl, rfl, rfl, trivial⟩, St.sel S2441 3 [0, 1, 2] rfl rfl⟩
                      · replace hm := ifTe hb198 hm
                        refine svg (g := 2) (d := 29) (want := true) (b := decide (x222 ≥ 0)) A2429 S2429 rfl rfl rfl hb198 (opT_move (v := v1) rfl rfl) rfl ?_
                        clear A2429 S2429 a2429 w2429;intro a2442 w2442 A2442 S2442
                        refine svg (g := 2) (d := 29) (want := true) (b := decide (x222 ≥ 0)) A2442 S2442 rfl rfl rfl hb198 (opT_move (v := .int .i64 x222) rfl rfl) rfl ?_
                        clear A2442 S2442 a2442 w2442;intro a2443 w2443 A2443 S2443
                        obtain ⟨x223, e224, hm⟩ := bind_some hm
                        refine svg (g := 2) (d := 29) (want := true) (b := decide (x222 ≥ 0)) A2443 S2443 rfl rfl rfl hb198 (opT_index_hd (xs := s77.1) (i := x222) (n := 1) (St.hd S2443 0 rfl).1 Try.underlying22 ti4 rfl rfl rfl (getI_in e224)) rfl ?_
                        clear A2443 S2443 a2443 w2443;intro a2444 w2444 A2444 S2444
                        refine seq_op_g (g := 2) (d := 29) (want := true) (b := decide (x222 ≥ 0)) A2444 S2444 rfl rfl rfl hb198 (opT_load_own (E := 4) (R := rBool) (S := rBool) (xs := s77.1) (a := x223) (i := x222) (k := 1) (off := 0) (f := fun (x : Bool) => x) sh_bool e224 Fld.self ti4 rfl rfl rfl rfl rfl) (perm_front (i := 0) rfl) rfl ?_
                        rintro u a2445 w2445 hf A2445 (S2445 : St I w0 w2445 [Ch.own (rSlice 4 rBool) [v1] s77.1, Ch.blk g1 [.int .i64 p0a.1, va0, va1] 27, F])
                        obtain rfl := lds_one hf
                        clear A2444 S2444 a2444 w2444
                        refine sv A2445 S2445 (opT_pick (b := decide (x222 ≥ 0)) (v := .bool x223) rfl rfl (ifT hb198)) rfl rfl ?_
                        clear A2445 S2445 a2445 w2445;intro a2446 w2446 A2446 S2446
                        refine sv A2446 S2446 (opT_move (v := .bool x223) rfl rfl) rfl rfl ?_
                        clear A2446 S2446 a2446 w2446;intro a2447 w2447 A2447 S2447
                        rcases two (x223) with hb199 | hb199
                        · replace hm := ifFe hb199 hm
                          refine seq_skip (g := 8) (d := 35) (want := true) (b := x223) A2447 S2447 rfl rfl rfl hb199 rfl ?_
                          intro a2448 A2448
                          refine seq_skip (g := 8) (d := 35) (want := true) (b := x223) A2448 S2447 rfl rfl rfl hb199 rfl ?_
                          intro a2449 A2449
                          refine seq_skip (g := 8) (d := 35) (want := true) (b := x223) A2449 S2447 rfl rfl rfl hb199 rfl ?_
                          intro a2450 A2450
                          refine seq_skip (g := 8) (d := 35) (want := true) (b := x223) A2450 S2447 rfl rfl rfl hb199 rfl ?_
                          intro a2451 A2451
                          refine seq_skip (g := 8) (d := 35) (want := true) (b := x223) A2451 S2447 rfl rfl rfl hb199 rfl ?_
                          intro a2452 A2452
                          refine sv A2452 S2447 (opT_pick (b := x223) (v := .bool false) rfl rfl (ifF hb199)) rfl rfl ?_
                          clear A2452 S2447 a2452 w2447;intro a2453 w2453 A2453 S2453
                          refine wpList_nil ?_
                          replace A2453 := A2453.pick' (L' := [(1, .pointer (some ⟨g1, 0, none⟩)), (3, v1), (4, .bool s77.2.1), (5, .int .i64 s71.2.2), (14, va1), (15, .int .i64 (p0a.2.2.length : Int)), (16, .int .i64 s71.2.2), (21, v10), (22, .int .i64 (x201.length : Int)), (23, .int .i64 s77.2.2), (41, .bool false)]) ⟨rfl, rfl, rfl, rfl, rfl, rfl, rfl, rfl, rfl, rfl, rfl, trivial⟩
                          refine nrm ?_
                          refine cnd_false (b := false) A2453 rfl rfl rfl ?_
                          refine wp_skip ?_
                          refine nrmB ?_
                          refine nrm ?_
                          obtain rfl := Option.some.inj hm
                          exact ⟨A2453.pick' ⟨rfl, rfl, rfl, rfl, rfl, rfl, rfl, rfl, rfl, rfl, trivial⟩, St.sel S2453 3 [0, 1, 2] rfl rfl⟩
                        · replace hm := ifTe hb199 hm
                          refine svg (g := 8) (d := 35) (want := true) (b := x223) A2447 S2447 rfl rfl rfl hb199 (opT_move (v := v1) rfl rfl) rfl ?_
                          clear A2447 S2447 a2447 w2447;intro a2454 w2454 A2454 S2454
                          refine svg (g := 8) (d := 35) (want := true) (b := x223) A2454 S2454 rfl rfl rfl hb199 (opT_move (v := .int .i64 s71.2.2) rfl rfl) rfl ?_
                          clear A2454 S2454 a2454 w2454;intro a2455 w2455 A2455 S2455
                          obtain ⟨x224, e225, hm⟩ := bind_some hm
                          refine svg (g := 8) (d := 35) (want := true) (b := x223) A2455 S2455 rfl rfl rfl hb199 (opT_index_hd (xs := s77.1) (i := s71.2.2) (n := 1) (St.hd S2455 0 rfl).1 Try.underlying22 ti4 rfl rfl rfl (getI_in e225)) rfl ?_
                          clear A2455 S2455 a2455 w2455;intro a2456 w2456 A2456 S2456
                          refine seq_op_g (g := 8) (d := 35) (want := true) (b := x223) A2456 S2456 rfl rfl rfl hb199 (opT_load_own (E := 4) (R := rBool) (S := rBool) (xs := s77.1) (a := x224) (i := s71.2.2) (k := 1) (off := 0) (f := fun (x : Bool) => x) sh_bool e225 Fld.self ti4 rfl rfl rfl rfl rfl) (perm_front (i := 0) rfl) rfl ?_
                          rintro u a2457 w2457 hf A2457 (S2457 : St I w0 w2457 [Ch.own (rSlice 4 rBool) [v1] s77.1, Ch.blk g1 [.int .i64 p0a.1, va0, va1] 27, F])
                          obtain rfl := lds_one hf
                          clear A2456 S2456 a2456 w2456
                          refine svg (g := 8) (d := 35) (want := true) (b := x223) A2457 S2457 rfl rfl rfl hb199 (opT_not (b := x224) rfl rfl) rfl ?_
                          clear A2457 S2457 a2457 w2457;intro a2458 w2458 A2458 S2458
                          refine sv A2458 S2458 (opT_pick (b := x223) (v := .bool (!x224)) rfl rfl (ifT hb199)) rfl rfl ?_
                          clear A2458 S2458 a2458 w2458;intro a2459 w2459 A2459 S2459
                          refine wpList_nil ?_
                          replace A2459 := A2459.pick' (L' := [(1, .pointer (some ⟨g1, 0, none⟩)), (3, v1), (4, .bool s77.2.1), (5, .int .i64 s71.2.2), (14, va1), (15, .int .i64 (p0a.2.2.length : Int)), (16, .int .i64 s71.2.2), (21, v10), (22, .int .i64 (x201.length : Int)), (23, .int .i64 s77.2.2), (41, .bool (!x224))]) ⟨rfl, rfl, rfl, rfl, rfl, rfl, rfl, rfl, rfl, rfl, rfl, trivial⟩
                          refine nrm ?_
                          rcases two (x224) with hb200 | hb200
                          · replace hm := ifFe hb200 hm
                            refine cnd_true (b := !x224) A2459 rfl rfl (notT hb200) ?_
                            refine wp_seq ?_
                            refine wp_region_lit ?_
                            refine sv A2459 S2459 (opT_move (v := v1) rfl rfl) rfl rfl ?_
                            clear A2459 S2459 a2459 w2459;intro a2460 w2460 A2460 S2460
                            refine sv A2460 S2460 (opT_move (v := .int .i64 s71.2.2) rfl rfl) rfl rfl ?_
                            clear A2460 S2460 a2460 w2460;intro a2461 w2461 A2461 S2461
                            obtain ⟨x225, e226, hm⟩ := bind_some hm
                            refine sv A2461 S2461 (opT_index_hd (xs := s77.1) (i := s71.2.2) (n := 1) (St.hd S2461 0 rfl).1 Try.underlying22 ti4 rfl rfl rfl (getI_in e226)) rfl rfl ?_
                            clear A2461 S2461 a2461 w2461;intro a2462 w2462 A2462 S2462
                            refine seq_op A2462 S2462 rfl (opT_store_el (E := 4) (R := rBool) (S := rBool) (xs := s77.1) (a := x225) (b := true) (i := s71.2.2) (k := 1) (off := 0) (f := fun x y => y) (v := v1) (d := [.bool true]) (u := .bool true) sh_bool cpy_bool e226 Upd.self ti4 rfl rfl rfl rfl (allC rfl allN) rfl rfl (by decide) rfl) (perm_front (i := 0) rfl) rfl ?_
                            rintro _ a2463 w2463 - A2463 (S2463 : St I w0 w2463 [Ch.own (rSlice 4 rBool) [v1] (s77.1.set s71.2.2.toNat true), Ch.blk g1 [.int .i64 p0a.1, va0, va1] 27, F])
                            clear A2462 S2462 a2462 w2462
                            refine wpList_nil ?_
                            replace A2463 := A2463.pick' (L' := [(1, .pointer (some ⟨g1, 0, none⟩)), (3, v1), (5, .int .i64 s71.2.2), (14, va1), (15, .int .i64 (p0a.2.2.length : Int)), (16, .int .i64 s71.2.2), (21, v10), (22, .int .i64 (x201.length : Int)), (23, .int .i64 s77.2.2)]) ⟨rfl, rfl, rfl, rfl, rfl, rfl, rfl, rfl, rfl, trivial⟩
                            refine nrm ?_
                            refine wp_region_lit ?_
                            refine sv A2463 S2463 (opT_assign (v := .bool true) rfl rfl) rfl rfl ?_
                            clear A2463 S2463 a2463 w2463;intro a2464 w2464 A2464 S2464
                            refine wpList_nil ?_
                            replace A2464 := A2464.pick' (L' := [(1, .pointer (some ⟨g1, 0, none⟩)), (3, v1), (4, .bool true), (5, .int .i64 s71.2.2), (14, va1), (15, .int .i64 (p0a.2.2.length : Int)), (16, .int .i64 s71.2.2), (21, v10), (22, .int .i64 (x201.length : Int)), (23, .int .i64 s77.2.2)]) ⟨rfl, rfl, rfl, rfl, rfl, rfl, rfl, rfl, rfl, rfl, trivial⟩
                            refine nrmB ?_
                            refine nrm ?_
                            obtain rfl := Option.some.inj hm
                            exact ⟨A2464.pick' ⟨rfl, rfl, rfl, rfl, rfl, rfl, rfl, rfl, rfl, rfl, trivial⟩, St.sel S2464 3 [0, 1, 2] rfl rfl⟩
                          · replace hm := ifTe hb200 hm
                            refine cnd_false (b := !x224) A2459 rfl rfl (notF hb200) ?_
                            refine wp_skip ?_
                            refine nrmB ?_
                            refine nrm ?_
                            obtain rfl := Option.some.inj hm
                            exact ⟨A2459.pick' ⟨rfl, rfl, rfl, rfl, rfl, rfl, rfl, rfl, rfl, rfl, trivial⟩, St.sel S2459 3 [0, 1, 2] rfl rfl⟩
                    · rintro a2465 w2465 ⟨A2465, S2465⟩
                      refine wp_region_lit ?_
                      refine sv A2465 S2465 (opT_add (m := s77.2.2) (n := 1) rfl rfl rfl) rfl rfl ?_
                      clear A2465 S2465 a2465 w2465;intro a2466 w2466 A2466 S2466
                      refine sv A2466 S2466 (opT_move (v := .int .i64 (IntKind.i64.wrap (s77.2.2 + 1))) rfl rfl) rfl rfl ?_
                      clear A2466 S2466 a2466 w2466;intro a2467 w2467 A2467 S2467
                      refine wpList_nil ?_
                      replace A2467 := A2467.pick' (L' := [(1, .pointer (some ⟨g1, 0, none⟩)), (3, v1), (4, .bool s79.2), (5, .int .i64 s71.2.2), (14, va1), (15, .int .i64 (p0a.2.2.length : Int)), (16, .int .i64 s71.2.2), (21, v10), (22, .int .i64 (x201.length : Int)), (23, .int .i64 (IntKind.i64.wrap (s77.2.2 + 1)))]) ⟨rfl, rfl, rfl, rfl, rfl, rfl, rfl, rfl, rfl, rfl, trivial⟩
                      refine nrm ?_
                      exact ⟨_, (Option.some.inj hm).symm, ⟨A2467.pick' ⟨rfl, rfl, rfl, rfl, rfl, rfl, rfl, rfl, rfl, rfl, trivial⟩, St.sel S2467 3 [0, 1, 2] rfl rfl⟩⟩
              · rintro a2468 w2468 ⟨s78, ho38, A2468, S2468⟩
                replace hm := loopOut ho38 hc39
                clear ho38 hc39 hl13
                refine nrmB ?_
                refine nrm ?_
                refine wp_region_lit ?_
                refine sv A2468 S2468 (opT_add (m := s71.2.2) (n := 1) rfl rfl rfl) rfl rfl ?_
                clear A2468 S2468 a2468 w2468;intro a2469 w2469 A2469 S2469
                refine sv A2469 S2469 (opT_move (v := .int .i64 (IntKind.i64.wrap (s71.2.2 + 1))) rfl rfl) rfl rfl ?_
                clear A2469 S2469 a2469 w2469;intro a2470 w2470 A2470 S2470
                refine wpList_nil ?_
                replace A2470 := A2470.pick' (L' := [(1, .pointer (some ⟨g1, 0, none⟩)), (3, v1), (4, .bool s78.2.1), (14, va1), (15, .int .i64 (p0a.2.2.length : Int)), (16, .int .i64 (IntKind.i64.wrap (s71.2.2 + 1)))]) ⟨rfl, rfl, rfl, rfl, rfl, rfl, trivial⟩
                refine nrm ?_
                exact ⟨_, (Option.some.inj hm).symm, ⟨A2470.pick' ⟨rfl, rfl, rfl, rfl, rfl, rfl, trivial⟩, St.sel S2470 3 [0, 1, 2] rfl rfl⟩⟩
        · rintro a2471 w2471 ⟨s72, ho39, A2471, S2471⟩
          replace hm := loopOut ho39 hc36
          clear ho39 hc36 hl12
          refine nrmB ?_
          refine nrm ?_
          exact ⟨_, (Option.some.inj hm).symm, ⟨A2471.pick' ⟨rfl, rfl, rfl, trivial⟩, St.sel S2471 3 [0, 1, 2] rfl rfl⟩⟩
  · rintro a2472 w2472 ⟨s54, ho40, A2472, S2472⟩
    replace hm := loopOut ho40 hc27
    clear ho40 hc27 hl9
    refine nrm ?_
    refine wp_seq ?_
    refine wp_region_lit ?_
    refine sv A2472 S2472 (opT_move (v := v1) rfl rfl) rfl rfl ?_
    clear A2472 S2472 a2472 w2472;intro a2473 w2473 A2473 S2473
    refine sv A2473 S2473 (opT_assign (v := v1) rfl rfl) rfl rfl ?_
    clear A2473 S2473 a2473 w2473;intro a2474 w2474 A2474 S2474
    refine wpList_nil ?_
    replace A2474 := A2474.pick' (L' := [(2, v1)]) ⟨rfl, trivial⟩
    refine nrm ?_
    refine wp_ret ?_
    obtain rfl := Option.some.inj hm
    exact ret_1 A2474 rfl (res_tmp A2474 rfl) ⟨_, rfl, trivial, _, Hp.le.rfl, St.sel (S2474) 2 [0, 1] rfl rfl⟩
set_option maxHeartbeats 8000000 in
theorem c_w_eqIntSS (p0a : List (List Int)) (p1b : List (List Int)) (r : Bool) (hm : m_w_eqIntSS p0a p1b = some r) {I : Hp} {w0 : World} (va0 : Value) (va1 : Value) (ra0 : (rSlice 34 (rSlice 3 rInt)).rd I [va0] p0a) (ra1 : (rSlice 34 (rSlice 3 rInt)).rd I [va1] p1b) : Con Try.prog 54 #[va0, va1] I w0 [] (fun v => v = .bool r) (fun v => []) := by
  refine con_of_wp (n := 27) [(0, va0), (1, va1)] Try.func54 rfl rfl (Nat.le_of_ble_eq_true rfl) (args_all ⟨rfl, rfl, trivial⟩) (fun F w a ha hs => ?_) (fun v => trivial)
  unfold m_w_eqIntSS at hm
  refine wp_seq ?_
  refine wp_region_lit ?_
  refine sv ha hs (opT_assign (v := .bool false) rfl rfl) rfl rfl ?_
  clear ha hs a w;intro a1 w1 A1 S1
  refine wpList_nil ?_
  replace A1 := A1.pick' (L' := [(0, va0), (1, va1)]) ⟨rfl, rfl, trivial⟩
  refine nrm ?_
  refine wp_seq ?_
  refine wp_seq ?_
  refine wp_region_lit ?_
  refine sv A1 S1 (opT_move (v := va0) rfl rfl) rfl rfl ?_
  clear A1 S1 a1 w1;intro a2 w2 A2 S2
  refine sv A2 S2 (opT_len_hd (v := va0) (n := p0a.length) (Hd.of_rd ra0) Try.underlying23 rfl rfl) rfl rfl ?_
  clear A2 S2 a2 w2;intro a3 w3 A3 S3
  refine sv A3 S3 (opT_move (v := va1) rfl rfl) rfl rfl ?_
  clear A3 S3 a3 w3;intro a4 w4 A4 S4
  refine sv A4 S4 (opT_len_hd (v := va1) (n := p1b.length) (Hd.of_rd ra1) Try.underlying23 rfl rfl) rfl rfl ?_
  clear A4 S4 a4 w4;intro a5 w5 A5 S5
  refine sv A5 S5 (opT_cmp (k := .i64) (m := (p0a.length : Int)) (n := (p1b.length : Int)) (c := (p0a.length : Int) != (p1b.length : Int)) rfl rfl rfl rfl rfl) rfl rfl ?_
  clear A5 S5 a5 w5;intro a6 w6 A6 S6
  refine wpList_nil ?_
  replace A6 := A6.pick' (L' := [(0, va0), (1, va1), (10, .bool ((p0a.length : Int) != (p1b.length : Int)))]) ⟨rfl, rfl, rfl, trivial⟩
  refine nrm ?_
  rcases two ((p0a.length : Int) != (p1b.length : Int)) with hb1 | hb1
  · replace hm := ifFe hb1 hm
    refine cnd_false (b := (p0a.length : Int) != (p1b.length : Int)) A6 rfl rfl hb1 ?_
    refine wp_skip ?_
    refine nrm ?_
    refine wp_seq ?_
    refine wp_seq ?_
    refine wp_region_lit ?_
    refine sv A6 S6 (opT_assign (v := .int .i64 0) rfl rfl) rfl rfl ?_
    clear A6 S6 a6 w6;intro a7 w7 A7 S7
    refine wpList_nil ?_
    replace A7 := A7.pick' (L' := [(0, va0), (1, va1), (5, .int .i64 0)]) ⟨rfl, rfl, rfl, trivial⟩
    refine nrm ?_
    obtain ⟨o1, hl1, hc1⟩ := bindL_some hm
    refine wp_cut (fun a w => ∃ s4 : Int, o1 = .brk s4 ∧ Agr 27 a [] ∧ St I w0 w [F]) ?_ ?_
    · refine wp_block (wp_loopM (R := Bool) (S := Int) (fun s3 a w => Agr 27 a [(0, va0), (1, va1), (5, .int .i64 s3)] ∧ St I w0 w [F]) hl1 ?_ ?_)
      · exact ⟨A7.pick' ⟨rfl, rfl, rfl, trivial⟩, St.sel S7 1 [0] rfl rfl⟩
      · rintro s3 o2 hm hf1 a24 w24 ⟨A24, S24⟩
        unfold m_w_eqIntSS_l0 at hm
        refine wp_seq ?_
        refine wp_seq ?_
        refine wp_region_lit ?_
        refine sv A24 S24 (opT_move (v := .int .i64 s3) rfl rfl) rfl rfl ?_
        clear A24 S24 a24 w24;intro a25 w25 A25 S25
        refine sv A25 S25 (opT_move (v := va0) rfl rfl) rfl rfl ?_
        clear A25 S25 a25 w25;intro a26 w26 A26 S26
        refine sv A26 S26 (opT_len_hd (v := va0) (n := p0a.length) (Hd.of_rd ra0) Try.underlying23 rfl rfl) rfl rfl ?_
        clear A26 S26 a26 w26;intro a27 w27 A27 S27
        refine sv A27 S27 (opT_cmp (k := .i64) (m := s3) (n := (p0a.length : Int)) (c := decide (s3 < (p0a.length : Int))) rfl rfl rfl rfl rfl) rfl rfl ?_
        clear A27 S27 a27 w27;intro a28 w28 A28 S28
        refine wpList_nil ?_
        replace A28 := A28.pick' (L' := [(0, va0), (1, va1), (5, .int .i64 s3), (14, .bool (decide (s3 < (p0a.length : Int))))]) ⟨rfl, rfl, rfl, rfl, trivial⟩
        refine nrm ?_
        rcases two (decide (s3 < (p0a.length : Int))) with hb6 | hb6
        · replace hm := ifFe hb6 hm
          refine cnd_false (b := decide (s3 < (p0a.length : Int))) A28 rfl rfl hb6 ?_
          refine wp_exit ?_
          refine thenX ?_
          refine thenX ?_
          refine ex_in ?_
          refine nrm ?_
          exact ⟨_, loopBrk hm hf1, ⟨A28.pick' trivial, St.sel S28 1 [0] rfl rfl⟩⟩
        · replace hm := ifTe hb6 hm
          refine cnd_true (b := decide (s3 < (p0a.length : Int))) A28 rfl rfl hb6 ?_
          refine wp_skip ?_
          refine nrm ?_
          refine wp_seq ?_
          refine wp_block ?_
          refine wp_seq ?_
          obtain ⟨x5, e7, hm⟩ := bind_some hm
          obtain ⟨x6, e8, hm⟩ := bind_some hm
          obtain ⟨r9, e9, hm⟩ := bind_some hm
          refine wp_draw (L := [(0, va0), (1, va1), (5, .int .i64 s3), (14, .bool (decide (s3 < (p0a.length : Int))))]) (C := [F]) { ops := [⟨[], [], [], [0], fun | [xo0] => xo0 = va0 | _ => True, [(0, none)]⟩, ⟨[], [], [], [1], fun | [xo1] => xo1 = .int .i64 s3 | _ => True, [(5, none)]⟩, ⟨[], [], [], [2], fun | [xo2] => xo2 = pt va0 (s3.toNat * 1) | _ => True, [(17, some 0), (18, some 1)]⟩, ⟨[], [], [], [3], fun | [xo3] => (rSlice 3 rInt).rd I [xo3] x5 | _ => True, [(19, some 2)]⟩, ⟨[], [], [], [4], fun | [xo4] => xo4 = va1 | _ => True, [(1, none)]⟩, ⟨[], [], [], [5], fun | [xo5] => xo5 = .int .i64 s3 | _ => True, [(5, none)]⟩, ⟨[], [], [], [6], fun | [xo6] => xo6 = pt va1 (s3.toNat * 1) | _ => True, [(21, some 4), (22, some 5)]⟩, ⟨[], [], [], [7], fun | [xo7] => (rSlice 3 rInt).rd I [xo7] x6 | _ => True, [(23, some 6)]⟩, ⟨[], [], [], [8], fun | [xo8] => xo8 = .bool r9 | _ => True, [(20, some 3), (24, some 7)]⟩, ⟨[], [], [], [9], fun | [xo9] => xo9 = .bool (!r9) | _ => True, [(25, some 8)]⟩], res := [], base := [], pre := [[], [], [0, 1], [0, 1, 2], [], [], [4, 5], [4, 5, 6], [0, 1, 2, 3, 4, 5, 6, 7], [0, 1, 2, 3, 4, 5, 6, 7, 8]], fin := [(0, none), (1, none), (5, none), (26, some 9)], left := [] } (by kernel_rfl) A28 S28 (perm_sel [0] (m := 1) rfl rfl) (by kernel_rfl) (by kernel_rfl) ?_ ?_
          · exact ⟨Plan.goal_run fun vs hf => ⟨wants_none rfl, OpT.conv (OpT.evs (ev' := evL [(0, va0)]) (opT_move (v := va0) rfl rfl) rfl [.tmp 0] rfl ⟨rfl, trivial⟩) rfl (fun _ h => Eq.trans h rfl) (fun _ => rfl)⟩, Plan.goal_run fun vs hf => ⟨wants_none rfl, OpT.conv (OpT.evs (ev' := evL [(5, .int .i64 s3)]) (opT_move (v := .int .i64 s3) rfl rfl) rfl [.tmp 5] rfl ⟨rfl, trivial⟩) rfl (fun _ h => Eq.trans h rfl) (fun _ => rfl)⟩, Plan.goal_run fun vs hf => ⟨wants_none rfl, OpT.conv (OpT.evs (ev' := evL [(17, va0), (18, .int .i64 s3)]) (opT_index_hd (xs := p0a) (i := s3) (n := 1) (Hd.of_rd ra0) Try.underlying23 ti34 rfl rfl rfl (getI_in e7)) rfl [.tmp 17, .tmp 18] rfl ⟨(hf 0 (mb rfl)), (hf 1 (mb rfl)), trivial⟩) rfl (fun _ h => Eq.trans h rfl) (fun _ => rfl)⟩, Plan.goal_run fun vs hf => ⟨wants_none rfl, OpT.conv (OpT.evs (ev' := evL [(19, pt va0 (s3.toNat * 1))]) (opT_load_el (S := rSlice 3 rInt) (xs := p0a) (a := x5) (i := s3) (k := 1) (off := 0) (f := fun (x : List Int) => x) ra0 e7 Fld.self ti34 rfl rfl rfl rfl rfl) rfl [.tmp 19] rfl ⟨(hf 2 (mb rfl)), trivial⟩) rfl (fun _ h => lds_sl h) (fun _ => rfl)⟩, Plan.goal_run fun vs hf => ⟨wants_none rfl, OpT.conv (OpT.evs (ev' := evL [(1, va1)]) (opT_move (v := va1) rfl rfl) rfl [.tmp 1] rfl ⟨rfl, trivial⟩) rfl (fun _ h => Eq.trans h rfl) (fun _ => rfl)⟩, Plan.goal_run fun vs hf => ⟨wants_none rfl, OpT.conv (OpT.evs (ev' := evL [(5, .int .i64 s3)]) (opT_move (v := .int .i64 s3) rfl rfl) rfl [.tmp 5] rfl ⟨rfl, trivial⟩) rfl (fun _ h => Eq.trans h rfl) (fun _ => rfl)⟩, Plan.goal_run fun vs hf => ⟨wants_none rfl, OpT.conv (OpT.evs (ev' := evL [(21, va1), (22, .int .i64 s3)]) (opT_index_hd (xs := p1b) (i := s3) (n := 1) (Hd.of_rd ra1) Try.underlying23 ti34 rfl rfl rfl (getI_in e8)) rfl [.tmp 21, .tmp 22] rfl ⟨(hf 4 (mb rfl)), (hf 5 (mb rfl)), trivial⟩) rfl (fun _ h => Eq.trans h rfl) (fun _ => rfl)⟩, Plan.goal_run fun vs hf => ⟨wants_none rfl, OpT.conv (OpT.evs (ev' := evL [(23, pt va1 (s3.toNat * 1))]) (opT_load_el (S := rSlice 3 rInt) (xs := p1b) (a := x6) (i := s3) (k := 1) (off := 0) (f := fun (x : List Int) => x) ra1 e8 Fld.self ti34 rfl rfl rfl rfl rfl) rfl [.tmp 23] rfl ⟨(hf 6 (mb rfl)), trivial⟩) rfl (fun _ h => lds_sl h) (fun _ => rfl)⟩, Plan.goal_run fun vs hf => ⟨wants_none rfl, OpT.conv (OpT.evs (ev' := evL [(20, (vs 3)), (24, (vs 7))]) (opT_call (args := #[(vs 3), (vs 7)]) (first := #[]) (captured := #[]) en69 rfl rfl rfl (c_w_eqIntS x5 x6 _ e9 (vs 3) (vs 7) (show (rSlice 3 rInt).rd I [(vs 3)] x5 from (hf 3 (mb rfl))) (show (rSlice 3 rInt).rd I [(vs 7)] x6 from (hf 7 (mb rfl))))) rfl [.func 69, .tmp 20, .tmp 24] rfl ⟨rfl, rfl, rfl, trivial⟩) rfl (fun _ h => h) (fun _ => rfl)⟩, Plan.goal_run fun vs hf => ⟨wants_none rfl, OpT.conv (OpT.evs (ev' := evL [(25, .bool r9)]) (opT_not (b := r9) rfl rfl) rfl [.tmp 25] rfl ⟨(hf 8 (mb rfl)), trivial⟩) rfl (fun _ h => Eq.trans h rfl) (fun _ => rfl)⟩, trivial⟩
          intro vs a29 w29 hf A29 S29
          clear A28 S28
          replace A29 := A29.pick' (L' := [(0, va0), (1, va1), (5, .int .i64 s3), (26, .bool (!r9))]) ⟨rfl, rfl, rfl, (congrArg some (show _ = _ from (hf 9 (Nat.le_of_ble_eq_true rfl)))), trivial⟩
          replace S29 : St I w0 w29 [F] := S29
          clear hf vs
          refine nrm ?_
          rcases two (r9) with hb7 | hb7
          · replace hm := ifFe hb7 hm
            refine cnd_true (b := !r9) A29 rfl rfl (notT hb7) ?_
            refine wp_seq ?_
            refine wp_region_lit ?_
            refine sv A29 S29 (opT_assign (v := .bool false) rfl rfl) rfl rfl ?_
            clear A29 S29 a29 w29;intro a30 w30 A30 S30
            refine wpList_nil ?_
            replace A30 := A30.pick' (L' := [(4, .bool false)]) ⟨rfl, trivial⟩
            refine nrm ?_
            refine wp_ret ?_
            refine blkR ?_
            refine thenR ?_
            refine thenR ?_
            refine blkR ?_
            refine thenR ?_
            refine thenR ?_
            replace hm := loopRet hm hf1 hc1
            obtain rfl := Option.some.inj hm
            exact ret_1 A30 rfl (res_tmp A30 rfl) ⟨_, rfl, rfl, _, Hp.le.rfl, St.sel (S30) 1 [0] rfl rfl⟩
          · replace hm := ifTe hb7 hm
            refine cnd_false (b := !r9) A29 rfl rfl (notF hb7) ?_
            refine wp_skip ?_
            refine nrmB ?_
            refine nrm ?_
            refine wp_region_lit ?_
            refine sv A29 S29 (opT_move (v := .int .i64 s3) rfl rfl) rfl rfl ?_
            clear A29 S29 a29 w29;intro a31 w31 A31 S31
            refine sv A31 S31 (opT_add (m := s3) (n := 1) rfl rfl rfl) rfl rfl ?_
            clear A31 S31 a31 w31;intro a32 w32 A32 S32
            refine sv A32 S32 (opT_assign (v := .int .i64 (IntKind.i64.wrap (s3 + 1))) rfl rfl) rfl rfl ?_
            clear A32 S32 a32 w32;intro a33 w33 A33 S33
            refine wpList_nil ?_
            replace A33 := A33.pick' (L' := [(0, va0), (1, va1), (5, .int .i64 (IntKind.i64.wrap (s3 + 1)))]) ⟨rfl, rfl, rfl, trivial⟩
            refine nrm ?_
            exact ⟨_, (Option.some.inj hm).symm, ⟨A33.pick' ⟨rfl, rfl, rfl, trivial⟩, St.sel S33 1 [0] rfl rfl⟩⟩
    · rintro a34 w34 ⟨s4, ho1, A34, S34⟩
      replace hm := loopOut ho1 hc1
      clear ho1 hc1 hl1
      refine nrm ?_
      refine wp_seq ?_
      refine wp_region_lit ?_
      refine sv A34 S34 (opT_assign (v := .bool true) rfl rfl) rfl rfl ?_
      clear A34 S34 a34 w34;intro a35 w35 A35 S35
      refine wpList_nil ?_
      replace A35 := A35.pick' (L' := [(4, .bool true)]) ⟨rfl, trivial⟩
      refine nrm ?_
      refine wp_ret ?_
      obtain rfl := Option.some.inj hm
      exact ret_1 A35 rfl (res_tmp A35 rfl) ⟨_, rfl, rfl, _, Hp.le.rfl, St.sel (S35) 1 [0] rfl rfl⟩
  · replace hm := ifTe hb1 hm
    refine cnd_true (b := (p0a.length : Int) != (p1b.length : Int)) A6 rfl rfl hb1 ?_
    refine wp_seq ?_
    refine wp_region_lit ?_
    refine sv A6 S6 (opT_assign (v := .bool false) rfl rfl) rfl rfl ?_
    clear A6 S6 a6 w6;intro a36 w36 A36 S36
    refine wpList_nil ?_
    replace A36 := A36.pick' (L' := [(4, .bool false)]) ⟨rfl, trivial⟩
    refine nrm ?_
    refine wp_ret ?_
    refine thenR ?_
    obtain rfl := Option.some.inj hm
    exact ret_1 A36 rfl (res_tmp A36 rfl) ⟨_, rfl, rfl, _, Hp.le.rfl, St.sel (S36) 1 [0] rfl rfl⟩
set_option maxHeartbeats 8000000 in
theorem c_w_szIntSS (p0a : List (List Int)) (p1left : Int) (r : Int) (hm : m_w_szIntSS p0a p1left = some r) {I : Hp} {w0 : World} (va0 : Value) (ra0 : (rSlice 34 (rSlice 3 rInt)).rd I [va0] p0a) : Con Try.prog 45 #[va0, .int .i64 p1left] I w0 [] (fun v => v = .int .i64 r) (fun v => []) := by
  refine con_of_wp (n := 27) [(0, va0), (1, .int .i64 p1left)] Try.func45 rfl rfl (Nat.le_of_ble_eq_true rfl) (args_all ⟨rfl, rfl, trivial⟩) (fun F w a ha hs => ?_) (fun v => trivial)
  unfold m_w_szIntSS at hm
  refine wp_seq ?_
  refine wp_region_lit ?_
  refine sv ha hs (opT_assign (v := .int .i64 0) rfl rfl) rfl rfl ?_
  clear ha hs a w;intro a1 w1 A1 S1
  refine wpList_nil ?_
  replace A1 := A1.pick' (L' := [(0, va0), (1, .int .i64 p1left)]) ⟨rfl, rfl, trivial⟩
  refine nrm ?_
  refine wp_seq ?_
  refine wp_region_lit ?_
  refine sv A1 S1 (opT_move (v := .int .i64 p1left) rfl rfl) rfl rfl ?_
  clear A1 S1 a1 w1;intro a2 w2 A2 S2
  refine sv A2 S2 (opT_move (v := va0) rfl rfl) rfl rfl ?_
  clear A2 S2 a2 w2;intro a3 w3 A3 S3
  refine sv A3 S3 (opT_len_hd (v := va0) (n := p0a.length) (Hd.of_rd ra0) Try.underlying23 rfl rfl) rfl rfl ?_
  clear A3 S3 a3 w3;intro a4 w4 A4 S4
  refine sv A4 S4 (opT_sub (m := p1left) (n := (p0a.length : Int)) rfl rfl rfl) rfl rfl ?_
  clear A4 S4 a4 w4;intro a5 w5 A5 S5
  refine sv A5 S5 (opT_assign (v := .int .i64 (IntKind.i64.wrap (p1left - (p0a.length : Int)))) rfl rfl) rfl rfl ?_
  clear A5 S5 a5 w5;intro a6 w6 A6 S6
  refine wpList_nil ?_
  replace A6 := A6.pick' (L' := [(0, va0), (1, .int .i64 (IntKind.i64.wrap (p1left - (p0a.length : Int))))]) ⟨rfl, rfl, trivial⟩
  refine nrm ?_
  refine wp_seq ?_
  refine wp_seq ?_
  refine wp_region_lit ?_
  refine sv A6 S6 (opT_move (v := .int .i64 (IntKind.i64.wrap (p1left - (p0a.length : Int)))) rfl rfl) rfl rfl ?_
  clear A6 S6 a6 w6;intro a7 w7 A7 S7
  refine sv A7 S7 (opT_cmp (k := .i64) (m := IntKind.i64.wrap (p1left - (p0a.length : Int))) (n := 0) (c := decide (IntKind.i64.wrap (p1left - (p0a.length : Int)) < 0)) rfl rfl rfl rfl rfl) rfl rfl ?_
  clear A7 S7 a7 w7;intro a8 w8 A8 S8
  refine wpList_nil ?_
  replace A8 := A8.pick' (L' := [(0, va0), (1, .int .i64 (IntKind.i64.wrap (p1left - (p0a.length : Int)))), (11, .bool (decide (IntKind.i64.wrap (p1left - (p0a.length : Int)) < 0)))]) ⟨rfl, rfl, rfl, trivial⟩
  refine nrm ?_
  rcases two (decide (IntKind.i64.wrap (p1left - (p0a.length : Int)) < 0)) with hb1 | hb1
  · replace hm := ifFe hb1 hm
    refine cnd_false (b := decide (IntKind.i64.wrap (p1left - (p0a.length : Int)) < 0)) A8 rfl rfl hb1 ?_
    refine wp_skip ?_
    refine nrm ?_
    refine wp_seq ?_
    refine wp_seq ?_
    refine wp_region_lit ?_
    refine sv A8 S8 (opT_assign (v := .int .i64 0) rfl rfl) rfl rfl ?_
    clear A8 S8 a8 w8;intro a9 w9 A9 S9
    refine wpList_nil ?_
    replace A9 := A9.pick' (L' := [(0, va0), (1, .int .i64 (IntKind.i64.wrap (p1left - (p0a.length : Int)))), (5, .int .i64 0)]) ⟨rfl, rfl, rfl, trivial⟩
    refine nrm ?_
    obtain ⟨o1, hl1, hc1⟩ := bindL_some hm
    refine wp_cut (fun a w => ∃ s4 : Int × Int, o1 = .brk s4 ∧ Agr 27 a [(1, .int .i64 s4.1)] ∧ St I w0 w [F]) ?_ ?_
    · refine wp_block (wp_loopM (R := Int) (S := Int × Int) (fun s3 a w => Agr 27 a [(0, va0), (1, .int .i64 s3.1), (5, .int .i64 s3.2)] ∧ St I w0 w [F]) hl1 ?_ ?_)
      · exact ⟨A9.pick' ⟨rfl, rfl, rfl, trivial⟩, St.sel S9 1 [0] rfl rfl⟩
      · rintro s3 o2 hm hf1 a44 w44 ⟨A44, S44⟩
        unfold m_w_szIntSS_l0 at hm
        refine wp_seq ?_
        refine wp_seq ?_
        refine wp_region_lit ?_
        refine sv A44 S44 (opT_move (v := .int .i64 s3.2) rfl rfl) rfl rfl ?_
        clear A44 S44 a44 w44;intro a45 w45 A45 S45
        refine sv A45 S45 (opT_move (v := va0) rfl rfl) rfl rfl ?_
        clear A45 S45 a45 w45;intro a46 w46 A46 S46
        refine sv A46 S46 (opT_len_hd (v := va0) (n := p0a.length) (Hd.of_rd ra0) Try.underlying23 rfl rfl) rfl rfl ?_
        clear A46 S46 a46 w46;intro a47 w47 A47 S47
        refine sv A47 S47 (opT_cmp (k := .i64) (m := s3.2) (n := (p0a.length : Int)) (c := decide (s3.2 < (p0a.length : Int))) rfl rfl rfl rfl rfl) rfl rfl ?_
        clear A47 S47 a47 w47;intro a48 w48 A48 S48
        refine wpList_nil ?_
        replace A48 := A48.pick' (L' := [(0, va0), (1, .int .i64 s3.1), (5, .int .i64 s3.2), (15, .bool (decide (s3.2 < (p0a.length : Int))))]) ⟨rfl, rfl, rfl, rfl, trivial⟩
        refine nrm ?_
        rcases two (decide (s3.2 < (p0a.length : Int))) with hb6 | hb6
        · replace hm := ifFe hb6 hm
          refine cnd_false (b := decide (s3.2 < (p0a.length : Int))) A48 rfl rfl hb6 ?_
          refine wp_exit ?_
          refine thenX ?_
          refine thenX ?_
          refine ex_in ?_
          refine nrm ?_
          exact ⟨_, loopBrk hm hf1, ⟨A48.pick' ⟨rfl, trivial⟩, St.sel S48 1 [0] rfl rfl⟩⟩
        · replace hm := ifTe hb6 hm
          refine cnd_true (b := decide (s3.2 < (p0a.length : Int))) A48 rfl rfl hb6 ?_
          refine wp_skip ?_
          refine nrm ?_
          refine wp_seq ?_
          refine wp_block ?_
          refine wp_seq ?_
          refine wp_region_lit ?_
          refine sv A48 S48 (opT_move (v := va0) rfl rfl) rfl rfl ?_
          clear A48 S48 a48 w48;intro a49 w49 A49 S49
          refine sv A49 S49 (opT_move (v := .int .i64 s3.2) rfl rfl) rfl rfl ?_
          clear A49 S49 a49 w49;intro a50 w50 A50 S50
          obtain ⟨x3, e5, hm⟩ := bind_some hm
          refine sv A50 S50 (opT_index_hd (xs := p0a) (i := s3.2) (n := 1) (Hd.of_rd ra0) Try.underlying23 ti34 rfl rfl rfl (getI_in e5)) rfl rfl ?_
          clear A50 S50 a50 w50;intro a51 w51 A51 S51
          refine seq_op0 A51 S51 (opT_load_el (S := rSlice 3 rInt) (xs := p0a) (a := x3) (i := s3.2) (k := 1) (off := 0) (f := fun (x : List Int) => x) ra0 e5 Fld.self ti34 rfl rfl rfl rfl rfl) rfl rfl ?_
          rintro v3 a52 w52 hf A52 S52
          have r5 := lds_sl hf
          clear hf
          clear A51 S51 a51 w51
          refine sv A52 S52 (opT_move (v := .int .i64 s3.1) rfl rfl) rfl rfl ?_
          clear A52 S52 a52 w52;intro a53 w53 A53 S53
          obtain ⟨r6, e6, hm⟩ := bind_some hm
          refine seq_op0 A53 S53 (opT_call (args := #[v3, .int .i64 s3.1]) (first := #[]) (captured := #[]) en63 rfl rfl rfl (c_w_szIntS x3 s3.1 _ e6 v3 r5)) rfl rfl ?_
          rintro u a54 w54 hf A54 S54
          obtain rfl := Eq.symm hf
          clear A53 S53 a53 w53
          refine sv A54 S54 (opT_assign (v := .int .i64 r6) rfl rfl) rfl rfl ?_
          clear A54 S54 a54 w54;intro a55 w55 A55 S55
          refine wpList_nil ?_
          replace A55 := A55.pick' (L' := [(0, va0), (1, .int .i64 r6), (5, .int .i64 s3.2)]) ⟨rfl, rfl, rfl, trivial⟩
          refine nrm ?_
          refine wp_seq ?_
          refine wp_region_lit ?_
          refine sv A55 S55 (opT_move (v := .int .i64 r6) rfl rfl) rfl rfl ?_
          clear A55 S55 a55 w55;intro a56 w56 A56 S56
          refine sv A56 S56 (opT_cmp (k := .i64) (m := r6) (n := 0) (c := decide (r6 < 0)) rfl rfl rfl rfl rfl) rfl rfl ?_
          clear A56 S56 a56 w56;intro a57 w57 A57 S57
          refine wpList_nil ?_
          replace A57 := A57.pick' (L' := [(0, va0), (1, .int .i64 r6), (5, .int .i64 s3.2), (25, .bool (decide (r6 < 0)))]) ⟨rfl, rfl, rfl, rfl, trivial⟩
          refine nrm ?_
          rcases two (decide (r6 < 0)) with hb7 | hb7
          · replace hm := ifFe hb7 hm
            refine cnd_false (b := decide (r6 < 0)) A57 rfl rfl hb7 ?_
            refine wp_skip ?_
            refine nrmB ?_
            refine nrm ?_
            refine wp_region_lit ?_
            refine sv A57 S57 (opT_move (v := .int .i64 s3.2) rfl rfl) rfl rfl ?_
            clear A57 S57 a57 w57;intro a58 w58 A58 S58
            refine sv A58 S58 (opT_add (m := s3.2) (n := 1) rfl rfl rfl) rfl rfl ?_
            clear A58 S58 a58 w58;intro a59 w59 A59 S59
            refine sv A59 S59 (opT_assign (v := .int .i64 (IntKind.i64.wrap (s3.2 + 1))) rfl rfl) rfl rfl ?_
            clear A59 S59 a59 w59;intro a60 w60 A60 S60
            refine wpList_nil ?_
            replace A60 := A60.pick' (L' := [(0, va0), (1, .int .i64 r6), (5, .int .i64 (IntKind.i64.wrap (s3.2 + 1)))]) ⟨rfl, rfl, rfl, trivial⟩
            refine nrm ?_
            exact ⟨_, (Option.some.inj hm).symm, ⟨A60.pick' ⟨rfl, rfl, rfl, trivial⟩, St.sel S60 1 [0] rfl rfl⟩⟩
          · replace hm := ifTe hb7 hm
            refine cnd_true (b := decide (r6 < 0)) A57 rfl rfl hb7 ?_
            refine wp_seq ?_
            refine wp_region_lit ?_
            refine sv A57 S57 (opT_assign (v := .int .i64 (-1)) rfl rfl) rfl rfl ?_
            clear A57 S57 a57 w57;intro a61 w61 A61 S61
            refine wpList_nil ?_
            replace A61 := A61.pick' (L' := [(4, .int .i64 (-1))]) ⟨rfl, trivial⟩
            refine nrm ?_
            refine wp_ret ?_
            refine blkR ?_
            refine thenR ?_
            refine thenR ?_
            refine blkR ?_
            refine thenR ?_
            refine thenR ?_
            replace hm := loopRet hm hf1 hc1
            obtain rfl := Option.some.inj hm
            exact ret_1 A61 rfl (res_tmp A61 rfl) ⟨_, rfl, rfl, _, Hp.le.rfl, St.sel (S61) 1 [0] rfl rfl⟩
    · rintro a62 w62 ⟨s4, ho1, A62, S62⟩
      replace hm := loopOut ho1 hc1
      clear ho1 hc1 hl1
      refine nrm ?_
      refine wp_seq ?_
      refine wp_region_lit ?_
      refine sv A62 S62 (opT_move (v := .int .i64 s4.1) rfl rfl) rfl rfl ?_
      clear A62 S62 a62 w62;intro a63 w63 A63 S63
      refine sv A63 S63 (opT_assign (v := .int .i64 s4.1) rfl rfl) rfl rfl ?_
      clear A63 S63 a63 w63;intro a64 w64 A64 S64
      refine wpList_nil ?_
      replace A64 := A64.pick' (L' := [(4, .int .i64 s4.1)]) ⟨rfl, trivial⟩
      refine nrm ?_
      refine wp_ret ?_
      obtain rfl := Option.some.inj hm
      exact ret_1 A64 rfl (res_tmp A64 rfl) ⟨_, rfl, rfl, _, Hp.le.rfl, St.sel (S64) 1 [0] rfl rfl⟩
  · replace hm := ifTe hb1 hm
    refine cnd_true (b := decide (IntKind.i64.wrap (p1left - (p0a.length : Int)) < 0)) A8 rfl rfl hb1 ?_
    refine wp_seq ?_
    refine wp_region_lit ?_
    refine sv A8 S8 (opT_assign (v := .int .i64 (-1)) rfl rfl) rfl rfl ?_
    clear A8 S8 a8 w8;intro a65 w65 A65 S65
    refine wpList_nil ?_
    replace A65 := A65.pick' (L' := [(4, .int .i64 (-1))]) ⟨rfl, trivial⟩
    refine nrm ?_
    refine wp_ret ?_
    refine thenR ?_
    obtain rfl := Option.some.inj hm
    exact ret_1 A65 rfl (res_tmp A65 rfl) ⟨_, rfl, rfl, _, Hp.le.rfl, St.sel (S65) 1 [0] rfl rfl⟩
set_option maxHeartbeats 8000000 in
theorem c_w_heldIntSS (p0a : List (List Int)) (p1k : Int) (r : Int) (hm : m_w_heldIntSS p0a p1k = some r) {I : Hp} {w0 : World} (va0 : Value) (ra0 : (rSlice 34 (rSlice 3 rInt)).rd I [va0] p0a) : Con Try.prog 58 #[va0, .int .i64 p1k] I w0 [] (fun v => v = .int .i64 r) (fun v => []) := by
  refine con_of_wp (n := 21) [(0, va0), (1, .int .i64 p1k)] Try.func58 rfl rfl (Nat.le_of_ble_eq_true rfl) (args_all ⟨rfl, rfl, trivial⟩) (fun F w a ha hs => ?_) (fun v => trivial)
  unfold m_w_heldIntSS at hm
  refine wp_seq ?_
  refine wp_region_lit ?_
  refine sv ha hs (opT_assign (v := .int .i64 0) rfl rfl) rfl rfl ?_
  clear ha hs a w;intro a1 w1 A1 S1
  refine wpList_nil ?_
  replace A1 := A1.pick' (L' := [(0, va0), (1, .int .i64 p1k)]) ⟨rfl, rfl, trivial⟩
  refine nrm ?_
  refine wp_seq ?_
  refine wp_seq ?_
  refine wp_region_lit ?_
  refine sv A1 S1 (opT_assign (v := .int .i64 0) rfl rfl) rfl rfl ?_
  clear A1 S1 a1 w1;intro a2 w2 A2 S2
  refine wpList_nil ?_
  replace A2 := A2.pick' (L' := [(0, va0), (1, .int .i64 p1k), (5, .int .i64 0)]) ⟨rfl, rfl, rfl, trivial⟩
  refine nrm ?_
  obtain ⟨o1, hl1, hc1⟩ := bindL_some hm
  refine wp_cut (fun a w => ∃ s4 : Int × Int, o1 = .brk s4 ∧ Agr 21 a [(1, .int .i64 s4.1)] ∧ St I w0 w [F]) ?_ ?_
  · refine wp_block (wp_loopM (R := Int) (S := Int × Int) (fun s3 a w => Agr 21 a [(0, va0), (1, .int .i64 s3.1), (5, .int .i64 s3.2)] ∧ St I w0 w [F]) hl1 ?_ ?_)
    · exact ⟨A2.pick' ⟨rfl, rfl, rfl, trivial⟩, St.sel S2 1 [0] rfl rfl⟩
    · rintro s3 o2 hm hf1 a37 w37 ⟨A37, S37⟩
      unfold m_w_heldIntSS_l0 at hm
      refine wp_seq ?_
      refine wp_seq ?_
      refine wp_region_lit ?_
      refine sv A37 S37 (opT_move (v := .int .i64 s3.2) rfl rfl) rfl rfl ?_
      clear A37 S37 a37 w37;intro a38 w38 A38 S38
      refine sv A38 S38 (opT_move (v := va0) rfl rfl) rfl rfl ?_
      clear A38 S38 a38 w38;intro a39 w39 A39 S39
      refine sv A39 S39 (opT_len_hd (v := va0) (n := p0a.length) (Hd.of_rd ra0) Try.underlying23 rfl rfl) rfl rfl ?_
      clear A39 S39 a39 w39;intro a40 w40 A40 S40
      refine sv A40 S40 (opT_cmp (k := .i64) (m := s3.2) (n := (p0a.length : Int)) (c := decide (s3.2 < (p0a.length : Int))) rfl rfl rfl rfl rfl) rfl rfl ?_
      clear A40 S40 a40 w40;intro a41 w41 A41 S41
      refine wpList_nil ?_
      replace A41 := A41.pick' (L' := [(0, va0), (1, .int .i64 s3.1), (5, .int .i64 s3.2), (9, .bool (decide (s3.2 < (p0a.length : Int))))]) ⟨rfl, rfl, rfl, rfl, trivial⟩
      refine nrm ?_
      rcases two (decide (s3.2 < (p0a.length : Int))) with hb5 | hb5
      · replace hm := ifFe hb5 hm
        refine cnd_false (b := decide (s3.2 < (p0a.length : Int))) A41 rfl rfl hb5 ?_
        refine wp_exit ?_
        refine thenX ?_
        refine thenX ?_
        refine ex_in ?_
        refine nrm ?_
        exact ⟨_, loopBrk hm hf1, ⟨A41.pick' ⟨rfl, trivial⟩, St.sel S41 1 [0] rfl rfl⟩⟩
      · replace hm := ifTe hb5 hm
        refine cnd_true (b := decide (s3.2 < (p0a.length : Int))) A41 rfl rfl hb5 ?_
        refine wp_skip ?_
        refine nrm ?_
        refine wp_seq ?_
        refine wp_block ?_
        refine wp_seq ?_
        refine wp_region_lit ?_
        refine sv A41 S41 (opT_move (v := va0) rfl rfl) rfl rfl ?_
        clear A41 S41 a41 w41;intro a42 w42 A42 S42
        refine sv A42 S42 (opT_move (v := .int .i64 s3.2) rfl rfl) rfl rfl ?_
        clear A42 S42 a42 w42;intro a43 w43 A43 S43
        obtain ⟨x3, e5, hm⟩ := bind_some hm
        refine sv A43 S43 (opT_index_hd (xs := p0a) (i := s3.2) (n := 1) (Hd.of_rd ra0) Try.underlying23 ti34 rfl rfl rfl (getI_in e5)) rfl rfl ?_
        clear A43 S43 a43 w43;intro a44 w44 A44 S44
        refine seq_op0 A44 S44 (opT_load_el (S := rSlice 3 rInt) (xs := p0a) (a := x3) (i := s3.2) (k := 1) (off := 0) (f := fun (x : List Int) => x) ra0 e5 Fld.self ti34 rfl rfl rfl rfl rfl) rfl rfl ?_
        rintro v3 a45 w45 hf A45 S45
        have r5 := lds_sl hf
        clear hf
        clear A44 S44 a44 w44
        refine sv A45 S45 (opT_move (v := .int .i64 s3.1) rfl rfl) rfl rfl ?_
        clear A45 S45 a45 w45;intro a46 w46 A46 S46
        obtain ⟨r6, e6, hm⟩ := bind_some hm
        refine seq_op0 A46 S46 (opT_call (args := #[v3, .int .i64 s3.1]) (first := #[]) (captured := #[]) en103 rfl rfl rfl (c_w_heldIntS x3 s3.1 _ e6 v3 r5)) rfl rfl ?_
        rintro u a47 w47 hf A47 S47
        obtain rfl := Eq.symm hf
        clear A46 S46 a46 w46
        refine sv A47 S47 (opT_assign (v := .int .i64 r6) rfl rfl) rfl rfl ?_
        clear A47 S47 a47 w47;intro a48 w48 A48 S48
        refine wpList_nil ?_
        replace A48 := A48.pick' (L' := [(0, va0), (1, .int .i64 r6), (5, .int .i64 s3.2)]) ⟨rfl, rfl, rfl, trivial⟩
        refine nrm ?_
        refine wp_seq ?_
        refine wp_region_lit ?_
        refine sv A48 S48 (opT_move (v := .int .i64 r6) rfl rfl) rfl rfl ?_
        clear A48 S48 a48 w48;intro a49 w49 A49 S49
        refine sv A49 S49 (opT_cmp (k := .i64) (m := r6) (n := 0) (c := decide (r6 < 0)) rfl rfl rfl rfl rfl) rfl rfl ?_
        clear A49 S49 a49 w49;intro a50 w50 A50 S50
        refine wpList_nil ?_
        replace A50 := A50.pick' (L' := [(0, va0), (1, .int .i64 r6), (5, .int .i64 s3.2), (19, .bool (decide (r6 < 0)))]) ⟨rfl, rfl, rfl, rfl, trivial⟩
        refine nrm ?_
        rcases two (decide (r6 < 0)) with hb6 | hb6
        · replace hm := ifFe hb6 hm
          refine cnd_false (b := decide (r6 < 0)) A50 rfl rfl hb6 ?_
          refine wp_skip ?_
          refine nrmB ?_
          refine nrm ?_
          refine wp_region_lit ?_
          refine sv A50 S50 (opT_move (v := .int .i64 s3.2) rfl rfl) rfl rfl ?_
          clear A50 S50 a50 w50;intro a51 w51 A51 S51
          refine sv A51 S51 (opT_add (m := s3.2) (n := 1) rfl rfl rfl) rfl rfl ?_
          clear A51 S51 a51 w51;intro a52 w52 A52 S52
          refine sv A52 S52 (opT_assign (v := .int .i64 (IntKind.i64.wrap (s3.2 + 1))) rfl rfl) rfl rfl ?_
          clear A52 S52 a52 w52;intro a53 w53 A53 S53
          refine wpList_nil ?_
          replace A53 := A53.pick' (L' := [(0, va0), (1, .int .i64 r6), (5, .int .i64 (IntKind.i64.wrap (s3.2 + 1)))]) ⟨rfl, rfl, rfl, trivial⟩
          refine nrm ?_
          exact ⟨_, (Option.some.inj hm).symm, ⟨A53.pick' ⟨rfl, rfl, rfl, trivial⟩, St.sel S53 1 [0] rfl rfl⟩⟩
        · replace hm := ifTe hb6 hm
          refine cnd_true (b := decide (r6 < 0)) A50 rfl rfl hb6 ?_
          refine wp_seq ?_
          refine wp_region_lit ?_
          refine sv A50 S50 (opT_assign (v := .int .i64 (-1)) rfl rfl) rfl rfl ?_
          clear A50 S50 a50 w50;intro a54 w54 A54 S54
          refine wpList_nil ?_
          replace A54 := A54.pick' (L' := [(4, .int .i64 (-1))]) ⟨rfl, trivial⟩
          refine nrm ?_
          refine wp_ret ?_
          refine blkR ?_
          refine thenR ?_
          refine thenR ?_
          refine blkR ?_
          refine thenR ?_
          refine thenR ?_
          replace hm := loopRet hm hf1 hc1
          obtain rfl := Option.some.inj hm
          exact ret_1 A54 rfl (res_tmp A54 rfl) ⟨_, rfl, rfl, _, Hp.le.rfl, St.sel (S54) 1 [0] rfl rfl⟩
  · rintro a55 w55 ⟨s4, ho1, A55, S55⟩
    replace hm := loopOut ho1 hc1
    clear ho1 hc1 hl1
    refine nrm ?_
    refine wp_seq ?_
    refine wp_region_lit ?_
    refine sv A55 S55 (opT_move (v := .int .i64 s4.1) rfl rfl) rfl rfl ?_
    clear A55 S55 a55 w55;intro a56 w56 A56 S56
    refine sv A56 S56 (opT_assign (v := .int .i64 s4.1) rfl rfl) rfl rfl ?_
    clear A56 S56 a56 w56;intro a57 w57 A57 S57
    refine wpList_nil ?_
    replace A57 := A57.pick' (L' := [(4, .int .i64 s4.1)]) ⟨rfl, trivial⟩
    refine nrm ?_
    refine wp_ret ?_
    obtain rfl := Option.some.inj hm
    exact ret_1 A57 rfl (res_tmp A57 rfl) ⟨_, rfl, rfl, _, Hp.le.rfl, St.sel (S57) 1 [0] rfl rfl⟩
end Go.Proofs.Ytcihbmdppgpmjaa.D
