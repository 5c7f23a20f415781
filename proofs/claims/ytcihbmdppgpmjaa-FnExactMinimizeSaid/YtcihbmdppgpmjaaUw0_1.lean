/- Printed by dec.py: models of functions and the walks that show them. -/
import Derived.Test.YtcihbmdppgpmjaaUm
set_option linter.unusedVariables false
set_option linter.unusedSimpArgs false
set_option linter.unnecessarySimpa false
set_option maxRecDepth 100000
namespace Go.Proofs.Ytcihbmdppgpmjaa.D
open Go.RowKit
set_option maxHeartbeats 8000000 in
theorem c_s_l11Live (p0a : Int × (List Bool) × (List (List Int))) (r : List Bool) (hm : m_s_l11Live p0a = some r) {I : Hp} {w0 : World} (va0 : Value) (va1 : Value) (ra0 : (rSlice 4 rBool).rd I [va0] p0a.2.1) (ra1 : (rSlice 34 (rSlice 3 rInt)).rd I [va1] p0a.2.2) : Con Try.prog 48 #[.agg #[.int .i64 p0a.1, va0, va1]] I w0 [] (fun v => True) (fun v => [Ch.own (rSlice 4 rBool) [v] r]) := by
  refine con_of_wp (n := 55) [(0, .agg #[.int .i64 p0a.1, va0, va1])] Try.func48 rfl rfl (Nat.le_of_ble_eq_true rfl) (args_all ⟨rfl, trivial⟩) (fun F w a ha hs => ?_) (fun v => ⟨dp_own (dp_slice dp_bool), trivial⟩)
  unfold m_s_l11Live at hm
  refine wp_seq ?_
  refine wp_region_lit ?_
  refine seq_op ha hs rfl (opT_box (u := .agg #[.int .i64 p0a.1, va0, va1]) (l := [.int .i64 p0a.1, va0, va1]) rfl rfl rfl) (List.Perm.refl _) rfl ?_
  rintro _ a1 w1 ⟨g1, rfl⟩ A1 (S1 : St I w0 w1 [Ch.blk g1 [.int .i64 p0a.1, va0, va1] 27, F])
  clear ha hs a w
  refine sv A1 S1 (opT_assign (v := .slice none 0 0) rfl rfl) rfl rfl ?_
  clear A1 S1 a1 w1;intro a2 w2 A2 S2
  refine wpList_nil ?_
  replace A2 := A2.pick' (L' := [(1, .pointer (some ⟨g1, 0, none⟩))]) ⟨rfl, trivial⟩
  refine nrm ?_
  refine wp_seq ?_
  refine wp_region_lit ?_
  refine seq_op A2 S2 rfl (opT_lit0 (E := 4) (R := rBool) Try.underlying22 ti4 rfl) (List.Perm.refl _) rfl ?_
  rintro v1 a3 w3 - A3 (S3 : St I w0 w3 [Ch.own (rSlice 4 rBool) [v1] ([] : List Bool), Ch.blk g1 [.int .i64 p0a.1, va0, va1] 27, F])
  clear A2 S2 a2 w2
  refine sv A3 S3 (opT_field_addr (g := g1) (b := 0) tf27_1 rfl rfl) rfl rfl ?_
  clear A3 S3 a3 w3;intro a4 w4 A4 S4
  refine seq_op A4 S4 rfl (opT_load_blk (g := g1) (off := 1) (E := 27) (l := [.int .i64 p0a.1, va0, va1]) (d := [va0]) (u := va0) ti22 rfl rfl rfl rfl rfl rfl) (perm_front (i := 1) rfl) rfl ?_
  rintro u a5 w5 hf A5 (S5 : St I w0 w5 [Ch.blk g1 [.int .i64 p0a.1, va0, va1] 27, Ch.own (rSlice 4 rBool) [v1] ([] : List Bool), F])
  obtain rfl := Eq.symm hf
  clear A4 S4 a4 w4
  obtain ⟨z1, e1, hm⟩ := bind_some hm
  refine seq_op A5 S5 rfl (opT_app_fro (E := 4) (R := rBool) (S := rBool) (s := v1) (u := va0) e1 cpy_bool rfl ra0 Try.underlying22 tz4 rfl (by decide) rfl (by decide) rfl rfl rfl) (perm_front (i := 1) rfl) rfl ?_
  rintro v2 a6 w6 - A6 (S6 : St I w0 w6 [Ch.own (rSlice 4 rBool) [v2] z1, Ch.blk g1 [.int .i64 p0a.1, va0, va1] 27, F])
  clear A5 S5 a5 w5
  refine sv A6 S6 (opT_assign (v := v2) rfl rfl) rfl rfl ?_
  clear A6 S6 a6 w6;intro a7 w7 A7 S7
  refine wpList_nil ?_
  replace A7 := A7.pick' (L' := [(1, .pointer (some ⟨g1, 0, none⟩)), (3, v2)]) ⟨rfl, rfl, trivial⟩
  refine nrm ?_
  refine wp_seq ?_
  refine wp_seq ?_
  refine wp_region_lit ?_
  refine sv A7 S7 (opT_assign (v := .int .i64 0) rfl rfl) rfl rfl ?_
  clear A7 S7 a7 w7;intro a8 w8 A8 S8
  refine wpList_nil ?_
  replace A8 := A8.pick' (L' := [(1, .pointer (some ⟨g1, 0, none⟩)), (3, v2), (4, .int .i64 0)]) ⟨rfl, rfl, rfl, trivial⟩
  refine nrm ?_
  obtain ⟨o35, hl9, hc27⟩ := bindL_some hm
  refine wp_cut (fun a w => ∃ s54 : (List Bool) × Int, o35 = .brk s54 ∧ Agr 55 a [(3, v2)] ∧ St I w0 w [Ch.own (rSlice 4 rBool) [v2] s54.1, F]) ?_ ?_
  · refine wp_block (wp_loopM (R := List Bool) (S := (List Bool) × Int) (fun s53 a w => Agr 55 a [(1, .pointer (some ⟨g1, 0, none⟩)), (3, v2), (4, .int .i64 s53.2)] ∧ St I w0 w [Ch.own (rSlice 4 rBool) [v2] s53.1, Ch.blk g1 [.int .i64 p0a.1, va0, va1] 27, F]) hl9 ?_ ?_)
    · exact ⟨A8.pick' ⟨rfl, rfl, rfl, trivial⟩, St.sel S8 3 [0, 1, 2] rfl rfl⟩
    · rintro s53 o36 hm hf9 a1573 w1573 ⟨A1573, S1573⟩
      unfold m_s_l11Live_l0 at hm
      refine wp_seq ?_
      refine wp_seq ?_
      refine wp_region_lit ?_
      refine sv A1573 S1573 (opT_move (v := .int .i64 s53.2) rfl rfl) rfl rfl ?_
      clear A1573 S1573 a1573 w1573;intro a1574 w1574 A1574 S1574
      refine sv A1574 S1574 (opT_field_addr (g := g1) (b := 0) tf27_1 rfl rfl) rfl rfl ?_
      clear A1574 S1574 a1574 w1574;intro a1575 w1575 A1575 S1575
      refine seq_op A1575 S1575 rfl (opT_load_blk (g := g1) (off := 1) (E := 27) (l := [.int .i64 p0a.1, va0, va1]) (d := [va0]) (u := va0) ti22 rfl rfl rfl rfl rfl rfl) (perm_front (i := 1) rfl) rfl ?_
      rintro u a1576 w1576 hf A1576 (S1576 : St I w0 w1576 [Ch.blk g1 [.int .i64 p0a.1, va0, va1] 27, Ch.own (rSlice 4 rBool) [v2] s53.1, F])
      obtain rfl := Eq.symm hf
      clear A1575 S1575 a1575 w1575
      refine sv A1576 S1576 (opT_len_hd (v := va0) (n := p0a.2.1.length) (Hd.of_rd ra0) Try.underlying22 rfl rfl) rfl rfl ?_
      clear A1576 S1576 a1576 w1576;intro a1577 w1577 A1577 S1577
      refine sv A1577 S1577 (opT_cmp (k := .i64) (m := s53.2) (n := (p0a.2.1.length : Int)) (c := decide (s53.2 < (p0a.2.1.length : Int))) rfl rfl rfl rfl rfl) rfl rfl ?_
      clear A1577 S1577 a1577 w1577;intro a1578 w1578 A1578 S1578
      refine wpList_nil ?_
      replace A1578 := A1578.pick' (L' := [(1, .pointer (some ⟨g1, 0, none⟩)), (3, v2), (4, .int .i64 s53.2), (15, .bool (decide (s53.2 < (p0a.2.1.length : Int))))]) ⟨rfl, rfl, rfl, rfl, trivial⟩
      refine nrm ?_
      rcases two (decide (s53.2 < (p0a.2.1.length : Int))) with hb98 | hb98
      · replace hm := ifFe hb98 hm
        refine cnd_false (b := decide (s53.2 < (p0a.2.1.length : Int))) A1578 rfl rfl hb98 ?_
        refine wp_exit ?_
        refine thenX ?_
        refine thenX ?_
        refine ex_in ?_
        refine nrm ?_
        exact ⟨_, loopBrk hm hf9, ⟨A1578.pick' ⟨rfl, trivial⟩, St.sel S1578 3 [1, 2] rfl rfl⟩⟩
      · replace hm := ifTe hb98 hm
        refine cnd_true (b := decide (s53.2 < (p0a.2.1.length : Int))) A1578 rfl rfl hb98 ?_
        refine wp_skip ?_
        refine nrm ?_
        refine wp_seq ?_
        refine wp_block ?_
        refine wp_seq ?_
        refine wp_region_lit ?_
        refine sv A1578 S1578 (opT_assign (v := .int .i64 0) rfl rfl) rfl rfl ?_
        clear A1578 S1578 a1578 w1578;intro a1579 w1579 A1579 S1579
        refine wpList_nil ?_
        replace A1579 := A1579.pick' (L' := [(1, .pointer (some ⟨g1, 0, none⟩)), (3, v2), (4, .int .i64 s53.2), (5, .int .i64 0)]) ⟨rfl, rfl, rfl, rfl, trivial⟩
        refine nrm ?_
        obtain ⟨o47, hl12, hc36⟩ := bindL_some hm
        refine wp_cut (fun a w => ∃ s72 : (List Bool) × Int, o47 = .brk s72 ∧ Agr 55 a [(1, .pointer (some ⟨g1, 0, none⟩)), (3, v2), (4, .int .i64 s53.2)] ∧ St I w0 w [Ch.own (rSlice 4 rBool) [v2] s72.1, Ch.blk g1 [.int .i64 p0a.1, va0, va1] 27, F]) ?_ ?_
        · refine wp_block (wp_loopM (R := List Bool) (S := (List Bool) × Int) (fun s71 a w => Agr 55 a [(1, .pointer (some ⟨g1, 0, none⟩)), (3, v2), (4, .int .i64 s53.2), (5, .int .i64 s71.2)] ∧ St I w0 w [Ch.own (rSlice 4 rBool) [v2] s71.1, Ch.blk g1 [.int .i64 p0a.1, va0, va1] 27, F]) hl12 ?_ ?_)
          · exact ⟨A1579.pick' ⟨rfl, rfl, rfl, rfl, trivial⟩, St.sel S1579 3 [1, 0, 2] rfl rfl⟩
          · rintro s71 o48 hm hf12 a2094 w2094 ⟨A2094, S2094⟩
            unfold m_s_l11Live_l1 at hm
            refine wp_seq ?_
            refine wp_seq ?_
            refine wp_region_lit ?_
            refine sv A2094 S2094 (opT_move (v := .int .i64 s71.2) rfl rfl) rfl rfl ?_
            clear A2094 S2094 a2094 w2094;intro a2095 w2095 A2095 S2095
            refine sv A2095 S2095 (opT_field_addr (g := g1) (b := 0) tf27_1 rfl rfl) rfl rfl ?_
            clear A2095 S2095 a2095 w2095;intro a2096 w2096 A2096 S2096
            refine seq_op A2096 S2096 rfl (opT_load_blk (g := g1) (off := 1) (E := 27) (l := [.int .i64 p0a.1, va0, va1]) (d := [va0]) (u := va0) ti22 rfl rfl rfl rfl rfl rfl) (perm_front (i := 1) rfl) rfl ?_
            rintro u a2097 w2097 hf A2097 (S2097 : St I w0 w2097 [Ch.blk g1 [.int .i64 p0a.1, va0, va1] 27, Ch.own (rSlice 4 rBool) [v2] s71.1, F])
            obtain rfl := Eq.symm hf
            clear A2096 S2096 a2096 w2096
            refine sv A2097 S2097 (opT_len_hd (v := va0) (n := p0a.2.1.length) (Hd.of_rd ra0) Try.underlying22 rfl rfl) rfl rfl ?_
            clear A2097 S2097 a2097 w2097;intro a2098 w2098 A2098 S2098
            refine sv A2098 S2098 (opT_cmp (k := .i64) (m := s71.2) (n := (p0a.2.1.length : Int)) (c := decide (s71.2 < (p0a.2.1.length : Int))) rfl rfl rfl rfl rfl) rfl rfl ?_
            clear A2098 S2098 a2098 w2098;intro a2099 w2099 A2099 S2099
            refine wpList_nil ?_
            replace A2099 := A2099.pick' (L' := [(1, .pointer (some ⟨g1, 0, none⟩)), (3, v2), (4, .int .i64 s53.2), (5, .int .i64 s71.2), (22, .bool (decide (s71.2 < (p0a.2.1.length : Int))))]) ⟨rfl, rfl, rfl, rfl, rfl, trivial⟩
            refine nrm ?_
            rcases two (decide (s71.2 < (p0a.2.1.length : Int))) with hb131 | hb131
            · replace hm := ifFe hb131 hm
              refine cnd_false (b := decide (s71.2 < (p0a.2.1.length : Int))) A2099 rfl rfl hb131 ?_
              refine wp_exit ?_
              refine thenX ?_
              refine thenX ?_
              refine ex_in ?_
              refine nrm ?_
              exact ⟨_, loopBrk hm hf12, ⟨A2099.pick' ⟨rfl, rfl, rfl, trivial⟩, St.sel S2099 3 [1, 0, 2] rfl rfl⟩⟩
            · replace hm := ifTe hb131 hm
              refine cnd_true (b := decide (s71.2 < (p0a.2.1.length : Int))) A2099 rfl rfl hb131 ?_
              refine wp_skip ?_
              refine nrm ?_
              refine wp_seq ?_
              refine wp_block ?_
              refine wp_seq ?_
              refine wp_region_lit ?_
              refine sv A2099 S2099 (opT_assign (v := .int .i64 0) rfl rfl) rfl rfl ?_
              clear A2099 S2099 a2099 w2099;intro a2100 w2100 A2100 S2100
              refine wpList_nil ?_
              replace A2100 := A2100.pick' (L' := [(1, .pointer (some ⟨g1, 0, none⟩)), (3, v2), (4, .int .i64 s53.2), (5, .int .i64 s71.2), (6, .int .i64 0)]) ⟨rfl, rfl, rfl, rfl, rfl, trivial⟩
              refine nrm ?_
              obtain ⟨o51, hl13, hc39⟩ := bindL_some hm
              refine wp_cut (fun a w => ∃ s78 : (List Bool) × Int, o51 = .brk s78 ∧ Agr 55 a [(1, .pointer (some ⟨g1, 0, none⟩)), (3, v2), (4, .int .i64 s53.2), (5, .int .i64 s71.2)] ∧ St I w0 w [Ch.own (rSlice 4 rBool) [v2] s78.1, Ch.blk g1 [.int .i64 p0a.1, va0, va1] 27, F]) ?_ ?_
              · refine wp_block (wp_loopM (R := List Bool) (S := (List Bool) × Int) (fun s77 a w => Agr 55 a [(1, .pointer (some ⟨g1, 0, none⟩)), (3, v2), (4, .int .i64 s53.2), (5, .int .i64 s71.2), (6, .int .i64 s77.2)] ∧ St I w0 w [Ch.own (rSlice 4 rBool) [v2] s77.1, Ch.blk g1 [.int .i64 p0a.1, va0, va1] 27, F]) hl13 ?_ ?_)
                · exact ⟨A2100.pick' ⟨rfl, rfl, rfl, rfl, rfl, trivial⟩, St.sel S2100 3 [1, 0, 2] rfl rfl⟩
                · rintro s77 o52 hm hf13 a2265 w2265 ⟨A2265, S2265⟩
                  unfold m_s_l11Live_l2 at hm
                  refine wp_seq ?_
                  refine wp_seq ?_
                  refine wp_region_lit ?_
                  refine sv A2265 S2265 (opT_move (v := .int .i64 s77.2) rfl rfl) rfl rfl ?_
                  clear A2265 S2265 a2265 w2265;intro a2266 w2266 A2266 S2266
                  refine sv A2266 S2266 (opT_cmp (k := .i64) (m := s77.2) (n := 9) (c := decide (s77.2 < 9)) rfl rfl rfl rfl rfl) rfl rfl ?_
                  clear A2266 S2266 a2266 w2266;intro a2267 w2267 A2267 S2267
                  refine wpList_nil ?_
                  replace A2267 := A2267.pick' (L' := [(1, .pointer (some ⟨g1, 0, none⟩)), (3, v2), (4, .int .i64 s53.2), (5, .int .i64 s71.2), (6, .int .i64 s77.2), (26, .bool (decide (s77.2 < 9)))]) ⟨rfl, rfl, rfl, rfl, rfl, rfl, trivial⟩
                  refine nrm ?_
                  rcases two (decide (s77.2 < 9)) with hb142 | hb142
                  · replace hm := ifFe hb142 hm
                    refine cnd_false (b := decide (s77.2 < 9)) A2267 rfl rfl hb142 ?_
                    refine wp_exit ?_
                    refine thenX ?_
                    refine thenX ?_
                    refine ex_in ?_
                    refine nrm ?_
                    exact ⟨_, loopBrk hm hf13, ⟨A2267.pick' ⟨rfl, rfl, rfl, rfl, trivial⟩, St.sel S2267 3 [0, 1, 2] rfl rfl⟩⟩
                  · replace hm := ifTe hb142 hm
                    refine cnd_true (b := decide (s77.2 < 9)) A2267 rfl rfl hb142 ?_
                    refine wp_skip ?_
                    refine nrm ?_
                    obtain ⟨s79, hj27, hm⟩ := bind_some hm
                    refine wp_seq_cut (fun a w => Agr 55 a [(1, .pointer (some ⟨g1, 0, none⟩)), (3, v2), (4, .int .i64 s53.2), (5, .int .i64 s71.2), (6, .int .i64 s77.2)] ∧ St I w0 w [Ch.own (rSlice 4 rBool) [v2] s79, Ch.blk g1 [.int .i64 p0a.1, va0, va1] 27, F]) ?_ ?_
                    · replace hm := hj27
                      refine wp_block ?_
                      refine wp_seq ?_
                      refine wp_region_lit ?_
                      refine sv A2267 S2267 (opT_field_addr (g := g1) (b := 0) tf27_2 rfl rfl) rfl rfl ?_
                      clear A2267 S2267 a2267 w2267;intro a2306 w2306 A2306 S2306
                      refine seq_op A2306 S2306 rfl (opT_load_blk (g := g1) (off := 2) (E := 27) (l := [.int .i64 p0a.1, va0, va1]) (d := [va1]) (u := va1) ti23 rfl rfl rfl rfl rfl rfl) (perm_front (i := 1) rfl) rfl ?_
                      rintro u a2307 w2307 hf A2307 (S2307 : St I w0 w2307 [Ch.blk g1 [.int .i64 p0a.1, va0, va1] 27, Ch.own (rSlice 4 rBool) [v2] s77.1, F])
                      obtain rfl := Eq.symm hf
                      clear A2306 S2306 a2306 w2306
                      refine sv A2307 S2307 (opT_move (v := .int .i64 s71.2) rfl rfl) rfl rfl ?_
                      clear A2307 S2307 a2307 w2307;intro a2308 w2308 A2308 S2308
                      obtain ⟨x319, e320, hm⟩ := bind_some hm
                      refine sv A2308 S2308 (opT_index_hd (xs := p0a.2.2) (i := s71.2) (n := 1) (Hd.of_rd ra1) Try.underlying23 ti34 rfl rfl rfl (getI_in e320)) rfl rfl ?_
                      clear A2308 S2308 a2308 w2308;intro a2309 w2309 A2309 S2309
                      refine seq_op0 A2309 S2309 (opT_load_el (S := rSlice 3 rInt) (xs := p0a.2.2) (a := x319) (i := s71.2) (k := 1) (off := 0) (f := fun (x : List Int) => x) ra1 e320 Fld.self ti34 rfl rfl rfl rfl rfl) rfl rfl ?_
                      rintro v109 a2310 w2310 hf A2310 S2310
                      have r107 := lds_sl hf
                      clear hf
                      clear A2309 S2309 a2309 w2309
                      refine sv A2310 S2310 (opT_move (v := .int .i64 s77.2) rfl rfl) rfl rfl ?_
                      clear A2310 S2310 a2310 w2310;intro a2311 w2311 A2311 S2311
                      obtain ⟨x320, e321, hm⟩ := bind_some hm
                      refine sv A2311 S2311 (opT_index_hd (xs := x319) (i := s77.2) (n := 1) (Hd.of_rd r107) Try.underlying34 ti3 rfl rfl rfl (getI_in e321)) rfl rfl ?_
                      clear A2311 S2311 a2311 w2311;intro a2312 w2312 A2312 S2312
                      refine seq_op0 A2312 S2312 (opT_load_el (S := rInt) (xs := x319) (a := x320) (i := s77.2) (k := 1) (off := 0) (f := fun (x : Int) => x) r107 e321 Fld.self ti3 rfl rfl rfl rfl rfl) rfl rfl ?_
                      rintro u a2313 w2313 hf A2313 S2313
                      obtain rfl := lds_one hf
                      clear A2312 S2312 a2312 w2312
                      refine sv A2313 S2313 (opT_cmp (k := .i64) (m := x320) (n := 0) (c := decide (x320 ≥ 0)) rfl rfl rfl rfl rfl) rfl rfl ?_
                      clear A2313 S2313 a2313 w2313;intro a2314 w2314 A2314 S2314
                      refine sv A2314 S2314 (opT_move (v := .bool (decide (x320 ≥ 0))) rfl rfl) rfl rfl ?_
                      clear A2314 S2314 a2314 w2314;intro a2315 w2315 A2315 S2315
                      rcases two (decide (x320 ≥ 0)) with hb145 | hb145
                      · replace hm := ifFe hb145 hm
                        refine seq_skip (g := 9) (d := 38) (want := true) (b := decide (x320 ≥ 0)) A2315 S2315 rfl rfl rfl hb145 rfl ?_
                        intro a2316 A2316
                        refine seq_skip (g := 9) (d := 38) (want := true) (b := decide (x320 ≥ 0)) A2316 S2315 rfl rfl rfl hb145 rfl ?_
                        intro a2317 A2317
                        refine seq_skip (g := 9) (d := 38) (want := true) (b := decide (x320 ≥ 0)) A2317 S2315 rfl rfl rfl hb145 rfl ?_
                        intro a2318 A2318
                        refine seq_skip (g := 9) (d := 38) (want := true) (b := decide (x320 ≥ 0)) A2318 S2315 rfl rfl rfl hb145 rfl ?_
                        intro a2319 A2319
                        refine seq_skip (g := 9) (d := 38) (want := true) (b := decide (x320 ≥ 0)) A2319 S2315 rfl rfl rfl hb145 rfl ?_
                        intro a2320 A2320
                        refine seq_skip (g := 9) (d := 38) (want := true) (b := decide (x320 ≥ 0)) A2320 S2315 rfl rfl rfl hb145 rfl ?_
                        intro a2321 A2321
                        refine seq_skip (g := 9) (d := 38) (want := true) (b := decide (x320 ≥ 0)) A2321 S2315 rfl rfl rfl hb145 rfl ?_
                        intro a2322 A2322
                        refine seq_skip (g := 9) (d := 38) (want := true) (b := decide (x320 ≥ 0)) A2322 S2315 rfl rfl rfl hb145 rfl ?_
                        intro a2323 A2323
                        refine seq_skip (g := 9) (d := 38) (want := true) (b := decide (x320 ≥ 0)) A2323 S2315 rfl rfl rfl hb145 rfl ?_
                        intro a2324 A2324
                        refine seq_skip (g := 9) (d := 38) (want := true) (b := decide (x320 ≥ 0)) A2324 S2315 rfl rfl rfl hb145 rfl ?_
                        intro a2325 A2325
                        refine seq_skip (g := 9) (d := 38) (want := true) (b := decide (x320 ≥ 0)) A2325 S2315 rfl rfl rfl hb145 rfl ?_
                        intro a2326 A2326
                        refine sv A2326 S2315 (opT_pick (b := decide (x320 ≥ 0)) (v := .bool false) rfl rfl (ifF hb145)) rfl rfl ?_
                        clear A2326 S2315 a2326 w2315;intro a2327 w2327 A2327 S2327
                        refine wpList_nil ?_
                        replace A2327 := A2327.pick' (L' := [(1, .pointer (some ⟨g1, 0, none⟩)), (3, v2), (4, .int .i64 s53.2), (5, .int .i64 s71.2), (6, .int .i64 s77.2), (50, .bool false)]) ⟨rfl, rfl, rfl, rfl, rfl, rfl, trivial⟩
                        refine nrm ?_
                        refine cnd_false (b := false) A2327 rfl rfl rfl ?_
                        refine wp_skip ?_
                        refine nrmB ?_
                        refine nrm ?_
                        obtain rfl := Option.some.inj hm
                        exact ⟨A2327.pick' ⟨rfl, rfl, rfl, rfl, rfl, trivial⟩, St.sel S2327 3 [1, 0, 2] rfl rfl⟩
                      · replace hm := ifTe hb145 hm
                        refine svg (g := 9) (d := 38) (want := true) (b := decide (x320 ≥ 0)) A2315 S2315 rfl rfl rfl hb145 (opT_move (v := v2) rfl rfl) rfl ?_
                        clear A2315 S2315 a2315 w2315;intro a2328 w2328 A2328 S2328
                        refine svg (g := 9) (d := 38) (want := true) (b := decide (x320 ≥ 0)) A2328 S2328 rfl rfl rfl hb145 (opT_field_addr (g := g1) (b := 0) tf27_2 rfl rfl) rfl ?_
                        clear A2328 S2328 a2328 w2328;intro a2329 w2329 A2329 S2329
                        refine seq_op_g (g := 9) (d := 38) (want := true) (b := decide (x320 ≥ 0)) A2329 S2329 rfl rfl rfl hb145 (opT_load_blk (g := g1) (off := 2) (E := 27) (l := [.int .i64 p0a.1, va0, va1]) (d := [va1]) (u := va1) ti23 rfl rfl rfl rfl rfl rfl) (perm_front (i := 0) rfl) rfl ?_
                        rintro u a2330 w2330 hf A2330 (S2330 : St I w0 w2330 [Ch.blk g1 [.int .i64 p0a.1, va0, va1] 27, Ch.own (rSlice 4 rBool) [v2] s77.1, F])
                        obtain rfl := Eq.symm hf
                        clear A2329 S2329 a2329 w2329
                        refine svg (g := 9) (d := 38) (want := true) (b := decide (x320 ≥ 0)) A2330 S2330 rfl rfl rfl hb145 (opT_move (v := .int .i64 s71.2) rfl rfl) rfl ?_
                        clear A2330 S2330 a2330 w2330;intro a2331 w2331 A2331 S2331
                        obtain ⟨x321, e322, hm⟩ := bind_some hm
                        refine svg (g := 9) (d := 38) (want := true) (b := decide (x320 ≥ 0)) A2331 S2331 rfl rfl rfl hb145 (opT_index_hd (xs := p0a.2.2) (i := s71.2) (n := 1) (Hd.of_rd ra1) Try.underlying23 ti34 rfl rfl rfl (getI_in e322)) rfl ?_
                        clear A2331 S2331 a2331 w2331;intro a2332 w2332 A2332 S2332
                        refine seq_op_g0 (g := 9) (d := 38) (want := true) (b := decide (x320 ≥ 0)) A2332 S2332 rfl rfl rfl hb145 (opT_load_el (S := rSlice 3 rInt) (xs := p0a.2.2) (a := x321) (i := s71.2) (k := 1) (off := 0) (f := fun (x : List Int) => x) ra1 e322 Fld.self ti34 rfl rfl rfl rfl rfl) rfl ?_
                        rintro v110 a2333 w2333 hf A2333 S2333
                        have r108 := lds_sl hf
                        clear hf
                        clear A2332 S2332 a2332 w2332
                        refine svg (g := 9) (d := 38) (want := true) (b := decide (x320 ≥ 0)) A2333 S2333 rfl rfl rfl hb145 (opT_move (v := .int .i64 s77.2) rfl rfl) rfl ?_
                        clear A2333 S2333 a2333 w2333;intro a2334 w2334 A2334 S2334
                        obtain ⟨x322, e323, hm⟩ := bind_some hm
                        refine svg (g := 9) (d := 38) (want := true) (b := decide (x320 ≥ 0)) A2334 S2334 rfl rfl rfl hb145 (opT_index_hd (xs := x321) (i := s77.2) (n := 1) (Hd.of_rd r108) Try.underlying34 ti3 rfl rfl rfl (getI_in e323)) rfl ?_
                        clear A2334 S2334 a2334 w2334;intro a2335 w2335 A2335 S2335
                        refine seq_op_g0 (g := 9) (d := 38) (want := true) (b := decide (x320 ≥ 0)) A2335 S2335 rfl rfl rfl hb145 (opT_load_el (S := rInt) (xs := x321) (a := x322) (i := s77.2) (k := 1) (off := 0) (f := fun (x : Int) => x) r108 e323 Fld.self ti3 rfl rfl rfl rfl rfl) rfl ?_
                        rintro u a2336 w2336 hf A2336 S2336
                        obtain rfl := lds_one hf
                        clear A2335 S2335 a2335 w2335
                        obtain ⟨x323, e324, hm⟩ := bind_some hm
                        refine svg (g := 9) (d := 38) (want := true) (b := decide (x320 ≥ 0)) A2336 S2336 rfl rfl rfl hb145 (opT_index_hd (xs := s77.1) (i := x322) (n := 1) (St.hd S2336 1 rfl).1 Try.underlying22 ti4 rfl rfl rfl (getI_in e324)) rfl ?_
                        clear A2336 S2336 a2336 w2336;intro a2337 w2337 A2337 S2337
                        refine seq_op_g (g := 9) (d := 38) (want := true) (b := decide (x320 ≥ 0)) A2337 S2337 rfl rfl rfl hb145 (opT_load_own (E := 4) (R := rBool) (S := rBool) (xs := s77.1) (a := x323) (i := x322) (k := 1) (off := 0) (f := fun (x : Bool) => x) sh_bool e324 Fld.self ti4 rfl rfl rfl rfl rfl) (perm_front (i := 1) rfl) rfl ?_
                        rintro u a2338 w2338 hf A2338 (S2338 : St I w0 w2338 [Ch.own (rSlice 4 rBool) [v2] s77.1, Ch.blk g1 [.int .i64 p0a.1, va0, va1] 27, F])
                        obtain rfl := lds_one hf
                        clear A2337 S2337 a2337 w2337
                        refine sv A2338 S2338 (opT_pick (b := decide (x320 ≥ 0)) (v := .bool x323) rfl rfl (ifT hb145)) rfl rfl ?_
                        clear A2338 S2338 a2338 w2338;intro a2339 w2339 A2339 S2339
                        refine wpList_nil ?_
                        replace A2339 := A2339.pick' (L' := [(1, .pointer (some ⟨g1, 0, none⟩)), (3, v2), (4, .int .i64 s53.2), (5, .int .i64 s71.2), (6, .int .i64 s77.2), (50, .bool x323)]) ⟨rfl, rfl, rfl, rfl, rfl, rfl, trivial⟩
                        refine nrm ?_
                        rcases two (x323) with hb146 | hb146
                        · replace hm := ifFe hb146 hm
                          refine cnd_false (b := x323) A2339 rfl rfl hb146 ?_
                          refine wp_skip ?_
                          refine nrmB ?_
                          refine nrm ?_
                          obtain rfl := Option.some.inj hm
                          exact ⟨A2339.pick' ⟨rfl, rfl, rfl, rfl, rfl, trivial⟩, St.sel S2339 3 [0, 1, 2] rfl rfl⟩
                        · replace hm := ifTe hb146 hm
                          refine cnd_true (b := x323) A2339 rfl rfl hb146 ?_
                          refine wp_region_lit ?_
                          refine sv A2339 S2339 (opT_move (v := v2) rfl rfl) rfl rfl ?_
                          clear A2339 S2339 a2339 w2339;intro a2340 w2340 A2340 S2340
                          refine sv A2340 S2340 (opT_move (v := .int .i64 s71.2) rfl rfl) rfl rfl ?_
                          clear A2340 S2340 a2340 w2340;intro a2341 w2341 A2341 S2341
                          obtain ⟨x324, e325, hm⟩ := bind_some hm
                          refine sv A2341 S2341 (opT_index_hd (xs := s77.1) (i := s71.2) (n := 1) (St.hd S2341 0 rfl).1 Try.underlying22 ti4 rfl rfl rfl (getI_in e325)) rfl rfl ?_
                          clear A2341 S2341 a2341 w2341;intro a2342 w2342 A2342 S2342
                          refine seq_op A2342 S2342 rfl (opT_store_el (E := 4) (R := rBool) (S := rBool) (xs := s77.1) (a := x324) (b := true) (i := s71.2) (k := 1) (off := 0) (f := fun x y => y) (v := v2) (d := [.bool true]) (u := .bool true) sh_bool cpy_bool e325 Upd.self ti4 rfl rfl rfl rfl (allC rfl allN) rfl rfl (by decide) rfl) (perm_front (i := 0) rfl) rfl ?_
                          rintro _ a2343 w2343 - A2343 (S2343 : St I w0 w2343 [Ch.own (rSlice 4 rBool) [v2] (s77.1.set s71.2.toNat true), Ch.blk g1 [.int .i64 p0a.1, va0, va1] 27, F])
                          clear A2342 S2342 a2342 w2342
                          refine wpList_nil ?_
                          replace A2343 := A2343.pick' (L' := [(1, .pointer (some ⟨g1, 0, none⟩)), (3, v2), (4, .int .i64 s53.2), (5, .int .i64 s71.2), (6, .int .i64 s77.2)]) ⟨rfl, rfl, rfl, rfl, rfl, trivial⟩
                          refine nrmB ?_
                          refine nrm ?_
                          obtain rfl := Option.some.inj hm
                          exact ⟨A2343.pick' ⟨rfl, rfl, rfl, rfl, rfl, trivial⟩, St.sel S2343 3 [0, 1, 2] rfl rfl⟩
                    · rintro a2344 w2344 ⟨A2344, S2344⟩
                      refine wp_region_lit ?_
                      refine sv A2344 S2344 (opT_move (v := .int .i64 s77.2) rfl rfl) rfl rfl ?_
                      clear A2344 S2344 a2344 w2344;intro a2345 w2345 A2345 S2345
                      refine sv A2345 S2345 (opT_add (m := s77.2) (n := 1) rfl rfl rfl) rfl rfl ?_
                      clear A2345 S2345 a2345 w2345;intro a2346 w2346 A2346 S2346
                      refine sv A2346 S2346 (opT_assign (v := .int .i64 (IntKind.i64.wrap (s77.2 + 1))) rfl rfl) rfl rfl ?_
                      clear A2346 S2346 a2346 w2346;intro a2347 w2347 A2347 S2347
                      refine wpList_nil ?_
                      replace A2347 := A2347.pick' (L' := [(1, .pointer (some ⟨g1, 0, none⟩)), (3, v2), (4, .int .i64 s53.2), (5, .int .i64 s71.2), (6, .int .i64 (IntKind.i64.wrap (s77.2 + 1)))]) ⟨rfl, rfl, rfl, rfl, rfl, trivial⟩
                      refine nrm ?_
                      exact ⟨_, (Option.some.inj hm).symm, ⟨A2347.pick' ⟨rfl, rfl, rfl, rfl, rfl, trivial⟩, St.sel S2347 3 [0, 1, 2] rfl rfl⟩⟩
              · rintro a2348 w2348 ⟨s78, ho38, A2348, S2348⟩
                replace hm := loopOut ho38 hc39
                clear ho38 hc39 hl13
                refine nrmB ?_
                refine nrm ?_
                refine wp_region_lit ?_
                refine sv A2348 S2348 (opT_move (v := .int .i64 s71.2) rfl rfl) rfl rfl ?_
                clear A2348 S2348 a2348 w2348;intro a2349 w2349 A2349 S2349
                refine sv A2349 S2349 (opT_add (m := s71.2) (n := 1) rfl rfl rfl) rfl rfl ?_
                clear A2349 S2349 a2349 w2349;intro a2350 w2350 A2350 S2350
                refine sv A2350 S2350 (opT_assign (v := .int .i64 (IntKind.i64.wrap (s71.2 + 1))) rfl rfl) rfl rfl ?_
                clear A2350 S2350 a2350 w2350;intro a2351 w2351 A2351 S2351
                refine wpList_nil ?_
                replace A2351 := A2351.pick' (L' := [(1, .pointer (some ⟨g1, 0, none⟩)), (3, v2), (4, .int .i64 s53.2), (5, .int .i64 (IntKind.i64.wrap (s71.2 + 1)))]) ⟨rfl, rfl, rfl, rfl, trivial⟩
                refine nrm ?_
                exact ⟨_, (Option.some.inj hm).symm, ⟨A2351.pick' ⟨rfl, rfl, rfl, rfl, trivial⟩, St.sel S2351 3 [0, 1, 2] rfl rfl⟩⟩
        · rintro a2352 w2352 ⟨s72, ho39, A2352, S2352⟩
          replace hm := loopOut ho39 hc36
          clear ho39 hc36 hl12
          refine nrmB ?_
          refine nrm ?_
          refine wp_region_lit ?_
          refine sv A2352 S2352 (opT_move (v := .int .i64 s53.2) rfl rfl) rfl rfl ?_
          clear A2352 S2352 a2352 w2352;intro a2353 w2353 A2353 S2353
          refine sv A2353 S2353 (opT_add (m := s53.2) (n := 1) rfl rfl rfl) rfl rfl ?_
          clear A2353 S2353 a2353 w2353;intro a2354 w2354 A2354 S2354
          refine sv A2354 S2354 (opT_assign (v := .int .i64 (IntKind.i64.wrap (s53.2 + 1))) rfl rfl) rfl rfl ?_
          clear A2354 S2354 a2354 w2354;intro a2355 w2355 A2355 S2355
          refine wpList_nil ?_
          replace A2355 := A2355.pick' (L' := [(1, .pointer (some ⟨g1, 0, none⟩)), (3, v2), (4, .int .i64 (IntKind.i64.wrap (s53.2 + 1)))]) ⟨rfl, rfl, rfl, trivial⟩
          refine nrm ?_
          exact ⟨_, (Option.some.inj hm).symm, ⟨A2355.pick' ⟨rfl, rfl, rfl, trivial⟩, St.sel S2355 3 [0, 1, 2] rfl rfl⟩⟩
  · rintro a2356 w2356 ⟨s54, ho40, A2356, S2356⟩
    replace hm := loopOut ho40 hc27
    clear ho40 hc27 hl9
    refine nrm ?_
    refine wp_seq ?_
    refine wp_region_lit ?_
    refine sv A2356 S2356 (opT_move (v := v2) rfl rfl) rfl rfl ?_
    clear A2356 S2356 a2356 w2356;intro a2357 w2357 A2357 S2357
    refine sv A2357 S2357 (opT_assign (v := v2) rfl rfl) rfl rfl ?_
    clear A2357 S2357 a2357 w2357;intro a2358 w2358 A2358 S2358
    refine wpList_nil ?_
    replace A2358 := A2358.pick' (L' := [(2, v2)]) ⟨rfl, trivial⟩
    refine nrm ?_
    refine wp_ret ?_
    obtain rfl := Option.some.inj hm
    exact ret_1 A2358 rfl (res_tmp A2358 rfl) ⟨_, rfl, trivial, _, Hp.le.rfl, St.sel (S2358) 2 [0, 1] rfl rfl⟩
set_option maxHeartbeats 8000000 in
theorem c_w_eqIntS (p0a : List Int) (p1b : List Int) (r : Bool) (hm : m_w_eqIntS p0a p1b = some r) {I : Hp} {w0 : World} (va0 : Value) (va1 : Value) (ra0 : (rSlice 3 rInt).rd I [va0] p0a) (ra1 : (rSlice 3 rInt).rd I [va1] p1b) : Con Try.prog 69 #[va0, va1] I w0 [] (fun v => v = .bool r) (fun v => []) := by
  refine con_of_wp (n := 26) [(0, va0), (1, va1)] Try.func69 rfl rfl (Nat.le_of_ble_eq_true rfl) (args_all ⟨rfl, rfl, trivial⟩) (fun F w a ha hs => ?_) (fun v => trivial)
  unfold m_w_eqIntS at hm
  refine wp_seq ?_
  refine wp_region_lit ?_
  refine sv ha hs (opT_assign (v := .bool false) rfl rfl) rfl rfl ?_
  clear ha hs a w;intro a1 w1 A1 S1
  refine wpList_nil ?_
  replace A1 := A1.pick' (L' := [(0, va0), (1, va1)]) ⟨rfl, rfl, trivial⟩
  refine nrm ?_
  refine wp_seq ?_
  refine wp_seq ?_
  refine wp_region_lit ?_
  refine sv A1 S1 (opT_move (v := va0) rfl rfl) rfl rfl ?_
  clear A1 S1 a1 w1;intro a2 w2 A2 S2
  refine sv A2 S2 (opT_len_hd (v := va0) (n := p0a.length) (Hd.of_rd ra0) Try.underlying34 rfl rfl) rfl rfl ?_
  clear A2 S2 a2 w2;intro a3 w3 A3 S3
  refine sv A3 S3 (opT_move (v := va1) rfl rfl) rfl rfl ?_
  clear A3 S3 a3 w3;intro a4 w4 A4 S4
  refine sv A4 S4 (opT_len_hd (v := va1) (n := p1b.length) (Hd.of_rd ra1) Try.underlying34 rfl rfl) rfl rfl ?_
  clear A4 S4 a4 w4;intro a5 w5 A5 S5
  refine sv A5 S5 (opT_cmp (k := .i64) (m := (p0a.length : Int)) (n := (p1b.length : Int)) (c := (p0a.length : Int) != (p1b.length : Int)) rfl rfl rfl rfl rfl) rfl rfl ?_
  clear A5 S5 a5 w5;intro a6 w6 A6 S6
  refine wpList_nil ?_
  replace A6 := A6.pick' (L' := [(0, va0), (1, va1), (10, .bool ((p0a.length : Int) != (p1b.length : Int)))]) ⟨rfl, rfl, rfl, trivial⟩
  refine nrm ?_
  rcases two ((p0a.length : Int) != (p1b.length : Int)) with hb1 | hb1
  · replace hm := ifFe hb1 hm
    refine cnd_false (b := (p0a.length : Int) != (p1b.length : Int)) A6 rfl rfl hb1 ?_
    refine wp_skip ?_
    refine nrm ?_
    refine wp_seq ?_
    refine wp_seq ?_
    refine wp_region_lit ?_
    refine sv A6 S6 (opT_assign (v := .int .i64 0) rfl rfl) rfl rfl ?_
    clear A6 S6 a6 w6;intro a7 w7 A7 S7
    refine wpList_nil ?_
    replace A7 := A7.pick' (L' := [(0, va0), (1, va1), (5, .int .i64 0)]) ⟨rfl, rfl, rfl, trivial⟩
    refine nrm ?_
    obtain ⟨o1, hl1, hc1⟩ := bindL_some hm
    refine wp_cut (fun a w => ∃ s4 : Int, o1 = .brk s4 ∧ Agr 26 a [] ∧ St I w0 w [F]) ?_ ?_
    · refine wp_block (wp_loopM (R := Bool) (S := Int) (fun s3 a w => Agr 26 a [(0, va0), (1, va1), (5, .int .i64 s3)] ∧ St I w0 w [F]) hl1 ?_ ?_)
      · exact ⟨A7.pick' ⟨rfl, rfl, rfl, trivial⟩, St.sel S7 1 [0] rfl rfl⟩
      · rintro s3 o2 hm hf1 a24 w24 ⟨A24, S24⟩
        unfold m_w_eqIntS_l0 at hm
        refine wp_seq ?_
        refine wp_seq ?_
        refine wp_region_lit ?_
        refine sv A24 S24 (opT_move (v := .int .i64 s3) rfl rfl) rfl rfl ?_
        clear A24 S24 a24 w24;intro a25 w25 A25 S25
        refine sv A25 S25 (opT_move (v := va0) rfl rfl) rfl rfl ?_
        clear A25 S25 a25 w25;intro a26 w26 A26 S26
        refine sv A26 S26 (opT_len_hd (v := va0) (n := p0a.length) (Hd.of_rd ra0) Try.underlying34 rfl rfl) rfl rfl ?_
        clear A26 S26 a26 w26;intro a27 w27 A27 S27
        refine sv A27 S27 (opT_cmp (k := .i64) (m := s3) (n := (p0a.length : Int)) (c := decide (s3 < (p0a.length : Int))) rfl rfl rfl rfl rfl) rfl rfl ?_
        clear A27 S27 a27 w27;intro a28 w28 A28 S28
        refine wpList_nil ?_
        replace A28 := A28.pick' (L' := [(0, va0), (1, va1), (5, .int .i64 s3), (14, .bool (decide (s3 < (p0a.length : Int))))]) ⟨rfl, rfl, rfl, rfl, trivial⟩
        refine nrm ?_
        rcases two (decide (s3 < (p0a.length : Int))) with hb6 | hb6
        · replace hm := ifFe hb6 hm
          refine cnd_false (b := decide (s3 < (p0a.length : Int))) A28 rfl rfl hb6 ?_
          refine wp_exit ?_
          refine thenX ?_
          refine thenX ?_
          refine ex_in ?_
          refine nrm ?_
          exact ⟨_, loopBrk hm hf1, ⟨A28.pick' trivial, St.sel S28 1 [0] rfl rfl⟩⟩
        · replace hm := ifTe hb6 hm
          refine cnd_true (b := decide (s3 < (p0a.length : Int))) A28 rfl rfl hb6 ?_
          refine wp_skip ?_
          refine nrm ?_
          refine wp_seq ?_
          refine wp_block ?_
          refine wp_seq ?_
          obtain ⟨x5, e5, hm⟩ := bind_some hm
          obtain ⟨x6, e6, hm⟩ := bind_some hm
          refine wp_draw (L := [(0, va0), (1, va1), (5, .int .i64 s3), (14, .bool (decide (s3 < (p0a.length : Int))))]) (C := [F]) { ops := [⟨[], [], [], [0], fun | [xo0] => xo0 = va0 | _ => True, [(0, none)]⟩, ⟨[], [], [], [1], fun | [xo1] => xo1 = .int .i64 s3 | _ => True, [(5, none)]⟩, ⟨[], [], [], [2], fun | [xo2] => xo2 = pt va0 (s3.toNat * 1) | _ => True, [(17, some 0), (18, some 1)]⟩, ⟨[], [], [], [3], fun | [xo3] => xo3 = .int .i64 x5 | _ => True, [(19, some 2)]⟩, ⟨[], [], [], [4], fun | [xo4] => xo4 = va1 | _ => True, [(1, none)]⟩, ⟨[], [], [], [5], fun | [xo5] => xo5 = .int .i64 s3 | _ => True, [(5, none)]⟩, ⟨[], [], [], [6], fun | [xo6] => xo6 = pt va1 (s3.toNat * 1) | _ => True, [(21, some 4), (22, some 5)]⟩, ⟨[], [], [], [7], fun | [xo7] => xo7 = .int .i64 x6 | _ => True, [(23, some 6)]⟩, ⟨[], [], [], [8], fun | [xo8] => xo8 = .bool (x5 != x6) | _ => True, [(20, some 3), (24, some 7)]⟩], res := [], base := [], pre := [[], [], [0, 1], [0, 1, 2], [], [], [4, 5], [4, 5, 6], [0, 1, 2, 3, 4, 5, 6, 7]], fin := [(0, none), (1, none), (5, none), (25, some 8)], left := [] } (by kernel_rfl) A28 S28 (perm_sel [0] (m := 1) rfl rfl) (by kernel_rfl) (by kernel_rfl) ?_ ?_
          · exact ⟨Plan.goal_run fun vs hf => ⟨wants_none rfl, OpT.conv (OpT.evs (ev' := evL [(0, va0)]) (opT_move (v := va0) rfl rfl) rfl [.tmp 0] rfl ⟨rfl, trivial⟩) rfl (fun _ h => Eq.trans h rfl) (fun _ => rfl)⟩, Plan.goal_run fun vs hf => ⟨wants_none rfl, OpT.conv (OpT.evs (ev' := evL [(5, .int .i64 s3)]) (opT_move (v := .int .i64 s3) rfl rfl) rfl [.tmp 5] rfl ⟨rfl, trivial⟩) rfl (fun _ h => Eq.trans h rfl) (fun _ => rfl)⟩, Plan.goal_run fun vs hf => ⟨wants_none rfl, OpT.conv (OpT.evs (ev' := evL [(17, va0), (18, .int .i64 s3)]) (opT_index_hd (xs := p0a) (i := s3) (n := 1) (Hd.of_rd ra0) Try.underlying34 ti3 rfl rfl rfl (getI_in e5)) rfl [.tmp 17, .tmp 18] rfl ⟨(hf 0 (mb rfl)), (hf 1 (mb rfl)), trivial⟩) rfl (fun _ h => Eq.trans h rfl) (fun _ => rfl)⟩, Plan.goal_run fun vs hf => ⟨wants_none rfl, OpT.conv (OpT.evs (ev' := evL [(19, pt va0 (s3.toNat * 1))]) (opT_load_el (S := rInt) (xs := p0a) (a := x5) (i := s3) (k := 1) (off := 0) (f := fun (x : Int) => x) ra0 e5 Fld.self ti3 rfl rfl rfl rfl rfl) rfl [.tmp 19] rfl ⟨(hf 2 (mb rfl)), trivial⟩) rfl (fun _ h => lds_one h) (fun _ => rfl)⟩, Plan.goal_run fun vs hf => ⟨wants_none rfl, OpT.conv (OpT.evs (ev' := evL [(1, va1)]) (opT_move (v := va1) rfl rfl) rfl [.tmp 1] rfl ⟨rfl, trivial⟩) rfl (fun _ h => Eq.trans h rfl) (fun _ => rfl)⟩, Plan.goal_run fun vs hf => ⟨wants_none rfl, OpT.conv (OpT.evs (ev' := evL [(5, .int .i64 s3)]) (opT_move (v := .int .i64 s3) rfl rfl) rfl [.tmp 5] rfl ⟨rfl, trivial⟩) rfl (fun _ h => Eq.trans h rfl) (fun _ => rfl)⟩, Plan.goal_run fun vs hf => ⟨wants_none rfl, OpT.conv (OpT.evs (ev' := evL [(21, va1), (22, .int .i64 s3)]) (opT_index_hd (xs := p1b) (i := s3) (n := 1) (Hd.of_rd ra1) Try.underlying34 ti3 rfl rfl rfl (getI_in e6)) rfl [.tmp 21, .tmp 22] rfl ⟨(hf 4 (mb rfl)), (hf 5 (mb rfl)), trivial⟩) rfl (fun _ h => Eq.trans h rfl) (fun _ => rfl)⟩, Plan.goal_run fun vs hf => ⟨wants_none rfl, OpT.conv (OpT.evs (ev' := evL [(23, pt va1 (s3.toNat * 1))]) (opT_load_el (S := rInt) (xs := p1b) (a := x6) (i := s3) (k := 1) (off := 0) (f := fun (x : Int) => x) ra1 e6 Fld.self ti3 rfl rfl rfl rfl rfl) rfl [.tmp 23] rfl ⟨(hf 6 (mb rfl)), trivial⟩) rfl (fun _ h => lds_one h) (fun _ => rfl)⟩, Plan.goal_run fun vs hf => ⟨wants_none rfl, OpT.conv (OpT.evs (ev' := evL [(20, .int .i64 x5), (24, .int .i64 x6)]) (opT_cmp (k := .i64) (m := x5) (n := x6) (c := x5 != x6) rfl rfl rfl rfl rfl) rfl [.tmp 20, .tmp 24] rfl ⟨(hf 3 (mb rfl)), (hf 7 (mb rfl)), trivial⟩) rfl (fun _ h => Eq.trans h rfl) (fun _ => rfl)⟩, trivial⟩
          intro vs a29 w29 hf A29 S29
          clear A28 S28
          replace A29 := A29.pick' (L' := [(0, va0), (1, va1), (5, .int .i64 s3), (25, .bool (x5 != x6))]) ⟨rfl, rfl, rfl, (congrArg some (show _ = _ from (hf 8 (Nat.le_of_ble_eq_true rfl)))), trivial⟩
          replace S29 : St I w0 w29 [F] := S29
          clear hf vs
          refine nrm ?_
          rcases two (x5 != x6) with hb7 | hb7
          · replace hm := ifFe hb7 hm
            refine cnd_false (b := x5 != x6) A29 rfl rfl hb7 ?_
            refine wp_skip ?_
            refine nrmB ?_
            refine nrm ?_
            refine wp_region_lit ?_
            refine sv A29 S29 (opT_move (v := .int .i64 s3) rfl rfl) rfl rfl ?_
            clear A29 S29 a29 w29;intro a30 w30 A30 S30
            refine sv A30 S30 (opT_add (m := s3) (n := 1) rfl rfl rfl) rfl rfl ?_
            clear A30 S30 a30 w30;intro a31 w31 A31 S31
            refine sv A31 S31 (opT_assign (v := .int .i64 (IntKind.i64.wrap (s3 + 1))) rfl rfl) rfl rfl ?_
            clear A31 S31 a31 w31;intro a32 w32 A32 S32
            refine wpList_nil ?_
            replace A32 := A32.pick' (L' := [(0, va0), (1, va1), (5, .int .i64 (IntKind.i64.wrap (s3 + 1)))]) ⟨rfl, rfl, rfl, trivial⟩
            refine nrm ?_
            exact ⟨_, (Option.some.inj hm).symm, ⟨A32.pick' ⟨rfl, rfl, rfl, trivial⟩, St.sel S32 1 [0] rfl rfl⟩⟩
          · replace hm := ifTe hb7 hm
            refine cnd_true (b := x5 != x6) A29 rfl rfl hb7 ?_
            refine wp_seq ?_
            refine wp_region_lit ?_
            refine sv A29 S29 (opT_assign (v := .bool false) rfl rfl) rfl rfl ?_
            clear A29 S29 a29 w29;intro a33 w33 A33 S33
            refine wpList_nil ?_
            replace A33 := A33.pick' (L' := [(4, .bool false)]) ⟨rfl, trivial⟩
            refine nrm ?_
            refine wp_ret ?_
            refine blkR ?_
            refine thenR ?_
            refine thenR ?_
            refine blkR ?_
            refine thenR ?_
            refine thenR ?_
            replace hm := loopRet hm hf1 hc1
            obtain rfl := Option.some.inj hm
            exact ret_1 A33 rfl (res_tmp A33 rfl) ⟨_, rfl, rfl, _, Hp.le.rfl, St.sel (S33) 1 [0] rfl rfl⟩
    · rintro a34 w34 ⟨s4, ho1, A34, S34⟩
      replace hm := loopOut ho1 hc1
      clear ho1 hc1 hl1
      refine nrm ?_
      refine wp_seq ?_
      refine wp_region_lit ?_
      refine sv A34 S34 (opT_assign (v := .bool true) rfl rfl) rfl rfl ?_
      clear A34 S34 a34 w34;intro a35 w35 A35 S35
      refine wpList_nil ?_
      replace A35 := A35.pick' (L' := [(4, .bool true)]) ⟨rfl, trivial⟩
      refine nrm ?_
      refine wp_ret ?_
      obtain rfl := Option.some.inj hm
      exact ret_1 A35 rfl (res_tmp A35 rfl) ⟨_, rfl, rfl, _, Hp.le.rfl, St.sel (S35) 1 [0] rfl rfl⟩
  · replace hm := ifTe hb1 hm
    refine cnd_true (b := (p0a.length : Int) != (p1b.length : Int)) A6 rfl rfl hb1 ?_
    refine wp_seq ?_
    refine wp_region_lit ?_
    refine sv A6 S6 (opT_assign (v := .bool false) rfl rfl) rfl rfl ?_
    clear A6 S6 a6 w6;intro a36 w36 A36 S36
    refine wpList_nil ?_
    replace A36 := A36.pick' (L' := [(4, .bool false)]) ⟨rfl, trivial⟩
    refine nrm ?_
    refine wp_ret ?_
    refine thenR ?_
    obtain rfl := Option.some.inj hm
    exact ret_1 A36 rfl (res_tmp A36 rfl) ⟨_, rfl, rfl, _, Hp.le.rfl, St.sel (S36) 1 [0] rfl rfl⟩
set_option maxHeartbeats 8000000 in
theorem c_w_heldBoolS (p0a : List Bool) (p1k : Int) (r : Int) (hm : m_w_heldBoolS p0a p1k = some r) {I : Hp} {w0 : World} (va0 : Value) (ra0 : (rSlice 4 rBool).rd I [va0] p0a) : Con Try.prog 57 #[va0, .int .i64 p1k] I w0 [] (fun v => v = .int .i64 r) (fun v => []) := by
  refine con_of_wp (n := 23) [(0, va0), (1, .int .i64 p1k)] Try.func57 rfl rfl (Nat.le_of_ble_eq_true rfl) (args_all ⟨rfl, rfl, trivial⟩) (fun F w a ha hs => ?_) (fun v => trivial)
  unfold m_w_heldBoolS at hm
  refine wp_seq ?_
  refine wp_region_lit ?_
  refine sv ha hs (opT_assign (v := .int .i64 0) rfl rfl) rfl rfl ?_
  clear ha hs a w;intro a1 w1 A1 S1
  refine wpList_nil ?_
  replace A1 := A1.pick' (L' := [(0, va0), (1, .int .i64 p1k)]) ⟨rfl, rfl, trivial⟩
  refine nrm ?_
  refine wp_seq ?_
  refine wp_seq ?_
  refine wp_region_lit ?_
  refine sv A1 S1 (opT_assign (v := .int .i64 0) rfl rfl) rfl rfl ?_
  clear A1 S1 a1 w1;intro a2 w2 A2 S2
  refine wpList_nil ?_
  replace A2 := A2.pick' (L' := [(0, va0), (1, .int .i64 p1k), (5, .int .i64 0)]) ⟨rfl, rfl, rfl, trivial⟩
  refine nrm ?_
  obtain ⟨o1, hl1, hc1⟩ := bindL_some hm
  refine wp_cut (fun a w => ∃ s4 : Int × Int, o1 = .brk s4 ∧ Agr 23 a [(1, .int .i64 s4.1)] ∧ St I w0 w [F]) ?_ ?_
  · refine wp_block (wp_loopM (R := Int) (S := Int × Int) (fun s3 a w => Agr 23 a [(0, va0), (1, .int .i64 s3.1), (5, .int .i64 s3.2)] ∧ St I w0 w [F]) hl1 ?_ ?_)
    · exact ⟨A2.pick' ⟨rfl, rfl, rfl, trivial⟩, St.sel S2 1 [0] rfl rfl⟩
    · rintro s3 o2 hm hf1 a41 w41 ⟨A41, S41⟩
      unfold m_w_heldBoolS_l0 at hm
      refine wp_seq ?_
      refine wp_seq ?_
      refine wp_region_lit ?_
      refine sv A41 S41 (opT_move (v := .int .i64 s3.2) rfl rfl) rfl rfl ?_
      clear A41 S41 a41 w41;intro a42 w42 A42 S42
      refine sv A42 S42 (opT_move (v := va0) rfl rfl) rfl rfl ?_
      clear A42 S42 a42 w42;intro a43 w43 A43 S43
      refine sv A43 S43 (opT_len_hd (v := va0) (n := p0a.length) (Hd.of_rd ra0) Try.underlying22 rfl rfl) rfl rfl ?_
      clear A43 S43 a43 w43;intro a44 w44 A44 S44
      refine sv A44 S44 (opT_cmp (k := .i64) (m := s3.2) (n := (p0a.length : Int)) (c := decide (s3.2 < (p0a.length : Int))) rfl rfl rfl rfl rfl) rfl rfl ?_
      clear A44 S44 a44 w44;intro a45 w45 A45 S45
      refine wpList_nil ?_
      replace A45 := A45.pick' (L' := [(0, va0), (1, .int .i64 s3.1), (5, .int .i64 s3.2), (9, .bool (decide (s3.2 < (p0a.length : Int))))]) ⟨rfl, rfl, rfl, rfl, trivial⟩
      refine nrm ?_
      rcases two (decide (s3.2 < (p0a.length : Int))) with hb5 | hb5
      · replace hm := ifFe hb5 hm
        refine cnd_false (b := decide (s3.2 < (p0a.length : Int))) A45 rfl rfl hb5 ?_
        refine wp_exit ?_
        refine thenX ?_
        refine thenX ?_
        refine ex_in ?_
        refine nrm ?_
        exact ⟨_, loopBrk hm hf1, ⟨A45.pick' ⟨rfl, trivial⟩, St.sel S45 1 [0] rfl rfl⟩⟩
      · replace hm := ifTe hb5 hm
        refine cnd_true (b := decide (s3.2 < (p0a.length : Int))) A45 rfl rfl hb5 ?_
        refine wp_skip ?_
        refine nrm ?_
        refine wp_seq ?_
        refine wp_block ?_
        refine wp_seq ?_
        refine wp_seq ?_
        refine wp_region_lit ?_
        refine sv A45 S45 (opT_move (v := va0) rfl rfl) rfl rfl ?_
        clear A45 S45 a45 w45;intro a46 w46 A46 S46
        refine sv A46 S46 (opT_move (v := .int .i64 s3.2) rfl rfl) rfl rfl ?_
        clear A46 S46 a46 w46;intro a47 w47 A47 S47
        obtain ⟨x3, e3, hm⟩ := bind_some hm
        refine sv A47 S47 (opT_index_hd (xs := p0a) (i := s3.2) (n := 1) (Hd.of_rd ra0) Try.underlying22 ti4 rfl rfl rfl (getI_in e3)) rfl rfl ?_
        clear A47 S47 a47 w47;intro a48 w48 A48 S48
        refine seq_op0 A48 S48 (opT_load_el (S := rBool) (xs := p0a) (a := x3) (i := s3.2) (k := 1) (off := 0) (f := fun (x : Bool) => x) ra0 e3 Fld.self ti4 rfl rfl rfl rfl rfl) rfl rfl ?_
        rintro u a49 w49 hf A49 S49
        obtain rfl := lds_one hf
        clear A48 S48 a48 w48
        refine sv A49 S49 (opT_move (v := .int .i64 s3.1) rfl rfl) rfl rfl ?_
        clear A49 S49 a49 w49;intro a50 w50 A50 S50
        refine sv A50 S50 (opT_rem (m := s3.1) (n := 3) rfl rfl rfl (by decide)) rfl rfl ?_
        clear A50 S50 a50 w50;intro a51 w51 A51 S51
        refine sv A51 S51 (opT_cmp (k := .i64) (m := Int.tmod s3.1 3) (n := 0) (c := (Int.tmod s3.1 3) == 0) rfl rfl rfl rfl rfl) rfl rfl ?_
        clear A51 S51 a51 w51;intro a52 w52 A52 S52
        refine sv A52 S52 (opT_neb (b := x3) (c := (Int.tmod s3.1 3) == 0) Try.underlying4 rfl rfl rfl) rfl rfl ?_
        clear A52 S52 a52 w52;intro a53 w53 A53 S53
        refine wpList_nil ?_
        replace A53 := A53.pick' (L' := [(0, va0), (1, .int .i64 s3.1), (5, .int .i64 s3.2), (19, .bool (x3 != ((Int.tmod s3.1 3) == 0)))]) ⟨rfl, rfl, rfl, rfl, trivial⟩
        refine nrm ?_
        rcases two (x3 != ((Int.tmod s3.1 3) == 0)) with hb6 | hb6
        · replace hm := ifFe hb6 hm
          refine cnd_false (b := x3 != ((Int.tmod s3.1 3) == 0)) A53 rfl rfl hb6 ?_
          refine wp_skip ?_
          refine nrm ?_
          refine wp_region_lit ?_
          refine sv A53 S53 (opT_move (v := .int .i64 s3.1) rfl rfl) rfl rfl ?_
          clear A53 S53 a53 w53;intro a54 w54 A54 S54
          refine sv A54 S54 (opT_add (m := s3.1) (n := 1) rfl rfl rfl) rfl rfl ?_
          clear A54 S54 a54 w54;intro a55 w55 A55 S55
          refine sv A55 S55 (opT_assign (v := .int .i64 (IntKind.i64.wrap (s3.1 + 1))) rfl rfl) rfl rfl ?_
          clear A55 S55 a55 w55;intro a56 w56 A56 S56
          refine wpList_nil ?_
          replace A56 := A56.pick' (L' := [(0, va0), (1, .int .i64 (IntKind.i64.wrap (s3.1 + 1))), (5, .int .i64 s3.2)]) ⟨rfl, rfl, rfl, trivial⟩
          refine nrmB ?_
          refine nrm ?_
          refine wp_region_lit ?_
          refine sv A56 S56 (opT_move (v := .int .i64 s3.2) rfl rfl) rfl rfl ?_
          clear A56 S56 a56 w56;intro a57 w57 A57 S57
          refine sv A57 S57 (opT_add (m := s3.2) (n := 1) rfl rfl rfl) rfl rfl ?_
          clear A57 S57 a57 w57;intro a58 w58 A58 S58
          refine sv A58 S58 (opT_assign (v := .int .i64 (IntKind.i64.wrap (s3.2 + 1))) rfl rfl) rfl rfl ?_
          clear A58 S58 a58 w58;intro a59 w59 A59 S59
          refine wpList_nil ?_
          replace A59 := A59.pick' (L' := [(0, va0), (1, .int .i64 (IntKind.i64.wrap (s3.1 + 1))), (5, .int .i64 (IntKind.i64.wrap (s3.2 + 1)))]) ⟨rfl, rfl, rfl, trivial⟩
          refine nrm ?_
          exact ⟨_, (Option.some.inj hm).symm, ⟨A59.pick' ⟨rfl, rfl, rfl, trivial⟩, St.sel S59 1 [0] rfl rfl⟩⟩
        · replace hm := ifTe hb6 hm
          refine cnd_true (b := x3 != ((Int.tmod s3.1 3) == 0)) A53 rfl rfl hb6 ?_
          refine wp_seq ?_
          refine wp_region_lit ?_
          refine sv A53 S53 (opT_assign (v := .int .i64 (-1)) rfl rfl) rfl rfl ?_
          clear A53 S53 a53 w53;intro a60 w60 A60 S60
          refine wpList_nil ?_
          replace A60 := A60.pick' (L' := [(4, .int .i64 (-1))]) ⟨rfl, trivial⟩
          refine nrm ?_
          refine wp_ret ?_
          refine thenR ?_
          refine blkR ?_
          refine thenR ?_
          refine thenR ?_
          refine blkR ?_
          refine thenR ?_
          refine thenR ?_
          replace hm := loopRet hm hf1 hc1
          obtain rfl := Option.some.inj hm
          exact ret_1 A60 rfl (res_tmp A60 rfl) ⟨_, rfl, rfl, _, Hp.le.rfl, St.sel (S60) 1 [0] rfl rfl⟩
  · rintro a61 w61 ⟨s4, ho1, A61, S61⟩
    replace hm := loopOut ho1 hc1
    clear ho1 hc1 hl1
    refine nrm ?_
    refine wp_seq ?_
    refine wp_region_lit ?_
    refine sv A61 S61 (opT_move (v := .int .i64 s4.1) rfl rfl) rfl rfl ?_
    clear A61 S61 a61 w61;intro a62 w62 A62 S62
    refine sv A62 S62 (opT_assign (v := .int .i64 s4.1) rfl rfl) rfl rfl ?_
    clear A62 S62 a62 w62;intro a63 w63 A63 S63
    refine wpList_nil ?_
    replace A63 := A63.pick' (L' := [(4, .int .i64 s4.1)]) ⟨rfl, trivial⟩
    refine nrm ?_
    refine wp_ret ?_
    obtain rfl := Option.some.inj hm
    exact ret_1 A63 rfl (res_tmp A63 rfl) ⟨_, rfl, rfl, _, Hp.le.rfl, St.sel (S63) 1 [0] rfl rfl⟩
set_option maxHeartbeats 8000000 in
theorem c_g_slices_Index_S_int_int (p0s : List Int) (p1v : Int) (r : Int) (hm : m_g_slices_Index_S_int_int p0s p1v = some r) {I : Hp} {w0 : World} (va0 : Value) (ra0 : (rSlice 3 rInt).rd I [va0] p0s) : Con Try.prog 112 #[va0, .int .i64 p1v] I w0 [] (fun v => v = .int .i64 r) (fun v => []) := by
  refine con_of_wp (n := 19) [(0, va0), (1, .int .i64 p1v)] Try.func112 rfl rfl (Nat.le_of_ble_eq_true rfl) (args_all ⟨rfl, rfl, trivial⟩) (fun F w a ha hs => ?_) (fun v => trivial)
  unfold m_g_slices_Index_S_int_int at hm
  refine wp_seq ?_
  refine wp_region_lit ?_
  refine sv ha hs (opT_assign (v := .int .i64 0) rfl rfl) rfl rfl ?_
  clear ha hs a w;intro a1 w1 A1 S1
  refine wpList_nil ?_
  replace A1 := A1.pick' (L' := [(0, va0), (1, .int .i64 p1v)]) ⟨rfl, rfl, trivial⟩
  refine nrm ?_
  refine wp_seq ?_
  refine wp_seq ?_
  refine wp_region_lit ?_
  refine sv A1 S1 (opT_move (v := va0) rfl rfl) rfl rfl ?_
  clear A1 S1 a1 w1;intro a2 w2 A2 S2
  refine sv A2 S2 (opT_len_hd (v := va0) (n := p0s.length) (Hd.of_rd ra0) Try.underlying34 rfl rfl) rfl rfl ?_
  clear A2 S2 a2 w2;intro a3 w3 A3 S3
  refine sv A3 S3 (opT_move (v := .int .i64 0) rfl rfl) rfl rfl ?_
  clear A3 S3 a3 w3;intro a4 w4 A4 S4
  refine wpList_nil ?_
  replace A4 := A4.pick' (L' := [(0, va0), (1, .int .i64 p1v), (7, .int .i64 (p0s.length : Int)), (8, .int .i64 0)]) ⟨rfl, rfl, rfl, rfl, trivial⟩
  refine nrm ?_
  obtain ⟨o1, hl1, hc1⟩ := bindL_some hm
  refine wp_cut (fun a w => ∃ s4 : Int, o1 = .brk s4 ∧ Agr 19 a [] ∧ St I w0 w [F]) ?_ ?_
  · refine wp_block (wp_loopM (R := Int) (S := Int) (fun s3 a w => Agr 19 a [(0, va0), (1, .int .i64 p1v), (7, .int .i64 (p0s.length : Int)), (8, .int .i64 s3)] ∧ St I w0 w [F]) hl1 ?_ ?_)
    · exact ⟨A4.pick' ⟨rfl, rfl, rfl, rfl, trivial⟩, St.sel S4 1 [0] rfl rfl⟩
    · rintro s3 o2 hm hf1 a31 w31 ⟨A31, S31⟩
      unfold m_g_slices_Index_S_int_int_l0 at hm
      refine wp_seq ?_
      refine wp_region_lit ?_
      refine sv A31 S31 (opT_cmp (k := .i64) (m := s3) (n := (p0s.length : Int)) (c := decide (s3 < (p0s.length : Int))) rfl rfl rfl rfl rfl) rfl rfl ?_
      clear A31 S31 a31 w31;intro a32 w32 A32 S32
      refine wpList_nil ?_
      replace A32 := A32.pick' (L' := [(0, va0), (1, .int .i64 p1v), (7, .int .i64 (p0s.length : Int)), (8, .int .i64 s3), (9, .bool (decide (s3 < (p0s.length : Int))))]) ⟨rfl, rfl, rfl, rfl, rfl, trivial⟩
      refine nrm ?_
      refine wp_seq ?_
      rcases two (decide (s3 < (p0s.length : Int))) with hb5 | hb5
      · replace hm := ifFe hb5 hm
        refine cnd_false (b := decide (s3 < (p0s.length : Int))) A32 rfl rfl hb5 ?_
        refine wp_exit ?_
        refine thenX ?_
        refine thenX ?_
        refine ex_in ?_
        refine nrm ?_
        exact ⟨_, loopBrk hm hf1, ⟨A32.pick' trivial, St.sel S32 1 [0] rfl rfl⟩⟩
      · replace hm := ifTe hb5 hm
        refine cnd_true (b := decide (s3 < (p0s.length : Int))) A32 rfl rfl hb5 ?_
        refine wp_skip ?_
        refine nrm ?_
        refine wp_seq ?_
        refine wp_block ?_
        refine wp_seq ?_
        refine wp_region_lit ?_
        refine sv A32 S32 (opT_move (v := .int .i64 s3) rfl rfl) rfl rfl ?_
        clear A32 S32 a32 w32;intro a33 w33 A33 S33
        refine sv A33 S33 (opT_assign (v := .int .i64 s3) rfl rfl) rfl rfl ?_
        clear A33 S33 a33 w33;intro a34 w34 A34 S34
        refine wpList_nil ?_
        replace A34 := A34.pick' (L' := [(0, va0), (1, .int .i64 p1v), (5, .int .i64 s3), (7, .int .i64 (p0s.length : Int)), (8, .int .i64 s3)]) ⟨rfl, rfl, rfl, rfl, rfl, trivial⟩
        refine nrm ?_
        refine wp_seq ?_
        refine wp_region_lit ?_
        refine sv A34 S34 (opT_move (v := .int .i64 p1v) rfl rfl) rfl rfl ?_
        clear A34 S34 a34 w34;intro a35 w35 A35 S35
        refine sv A35 S35 (opT_move (v := va0) rfl rfl) rfl rfl ?_
        clear A35 S35 a35 w35;intro a36 w36 A36 S36
        refine sv A36 S36 (opT_move (v := .int .i64 s3) rfl rfl) rfl rfl ?_
        clear A36 S36 a36 w36;intro a37 w37 A37 S37
        obtain ⟨x3, e3, hm⟩ := bind_some hm
        refine sv A37 S37 (opT_index_hd (xs := p0s) (i := s3) (n := 1) (Hd.of_rd ra0) Try.underlying34 ti3 rfl rfl rfl (getI_in e3)) rfl rfl ?_
        clear A37 S37 a37 w37;intro a38 w38 A38 S38
        refine seq_op0 A38 S38 (opT_load_el (S := rInt) (xs := p0s) (a := x3) (i := s3) (k := 1) (off := 0) (f := fun (x : Int) => x) ra0 e3 Fld.self ti3 rfl rfl rfl rfl rfl) rfl rfl ?_
        rintro u a39 w39 hf A39 S39
        obtain rfl := lds_one hf
        clear A38 S38 a38 w38
        refine sv A39 S39 (opT_cmp (k := .i64) (m := p1v) (n := x3) (c := p1v == x3) rfl rfl rfl rfl rfl) rfl rfl ?_
        clear A39 S39 a39 w39;intro a40 w40 A40 S40
        refine wpList_nil ?_
        replace A40 := A40.pick' (L' := [(0, va0), (1, .int .i64 p1v), (5, .int .i64 s3), (7, .int .i64 (p0s.length : Int)), (8, .int .i64 s3), (16, .bool (p1v == x3))]) ⟨rfl, rfl, rfl, rfl, rfl, rfl, trivial⟩
        refine nrm ?_
        rcases two (p1v == x3) with hb6 | hb6
        · replace hm := ifFe hb6 hm
          refine cnd_false (b := p1v == x3) A40 rfl rfl hb6 ?_
          refine wp_skip ?_
          refine nrmB ?_
          refine nrm ?_
          refine wp_region_lit ?_
          refine sv A40 S40 (opT_add (m := s3) (n := 1) rfl rfl rfl) rfl rfl ?_
          clear A40 S40 a40 w40;intro a41 w41 A41 S41
          refine sv A41 S41 (opT_move (v := .int .i64 (IntKind.i64.wrap (s3 + 1))) rfl rfl) rfl rfl ?_
          clear A41 S41 a41 w41;intro a42 w42 A42 S42
          refine wpList_nil ?_
          replace A42 := A42.pick' (L' := [(0, va0), (1, .int .i64 p1v), (7, .int .i64 (p0s.length : Int)), (8, .int .i64 (IntKind.i64.wrap (s3 + 1)))]) ⟨rfl, rfl, rfl, rfl, trivial⟩
          refine nrm ?_
          exact ⟨_, (Option.some.inj hm).symm, ⟨A42.pick' ⟨rfl, rfl, rfl, rfl, trivial⟩, St.sel S42 1 [0] rfl rfl⟩⟩
        · replace hm := ifTe hb6 hm
          refine cnd_true (b := p1v == x3) A40 rfl rfl hb6 ?_
          refine wp_seq ?_
          refine wp_region_lit ?_
          refine sv A40 S40 (opT_move (v := .int .i64 s3) rfl rfl) rfl rfl ?_
          clear A40 S40 a40 w40;intro a43 w43 A43 S43
          refine sv A43 S43 (opT_assign (v := .int .i64 s3) rfl rfl) rfl rfl ?_
          clear A43 S43 a43 w43;intro a44 w44 A44 S44
          refine wpList_nil ?_
          replace A44 := A44.pick' (L' := [(4, .int .i64 s3)]) ⟨rfl, trivial⟩
          refine nrm ?_
          refine wp_ret ?_
          refine blkR ?_
          refine thenR ?_
          refine thenR ?_
          refine blkR ?_
          refine thenR ?_
          refine thenR ?_
          replace hm := loopRet hm hf1 hc1
          obtain rfl := Option.some.inj hm
          exact ret_1 A44 rfl (res_tmp A44 rfl) ⟨_, rfl, rfl, _, Hp.le.rfl, St.sel (S44) 1 [0] rfl rfl⟩
  · rintro a45 w45 ⟨s4, ho1, A45, S45⟩
    replace hm := loopOut ho1 hc1
    clear ho1 hc1 hl1
    refine nrm ?_
    refine wp_seq ?_
    refine wp_region_lit ?_
    refine sv A45 S45 (opT_assign (v := .int .i64 (-1)) rfl rfl) rfl rfl ?_
    clear A45 S45 a45 w45;intro a46 w46 A46 S46
    refine wpList_nil ?_
    replace A46 := A46.pick' (L' := [(4, .int .i64 (-1))]) ⟨rfl, trivial⟩
    refine nrm ?_
    refine wp_ret ?_
    obtain rfl := Option.some.inj hm
    exact ret_1 A46 rfl (res_tmp A46 rfl) ⟨_, rfl, rfl, _, Hp.le.rfl, St.sel (S46) 1 [0] rfl rfl⟩
set_option maxHeartbeats 8000000 in
theorem c_w_markIntS (p0a : List Int) (p1k : Int) (r : Int × (List Int)) (hm : m_w_markIntS p0a p1k = some r) {I : Hp} {w0 : World} (va0 : Value) : Con Try.prog 102 #[va0, .int .i64 p1k] I w0 [Ch.own (rSlice 3 rInt) [va0] p0a] (fun v => v = .int .i64 r.1) (fun v => [Ch.own (rSlice 3 rInt) [va0] r.2]) := by
  refine con_of_wp (n := 19) [(0, va0), (1, .int .i64 p1k)] Try.func102 rfl rfl (Nat.le_of_ble_eq_true rfl) (args_all ⟨rfl, rfl, trivial⟩) (fun F w a ha hs => ?_) (fun v => ⟨dp_own (dp_slice dp_int), trivial⟩)
  unfold m_w_markIntS at hm
  refine wp_seq ?_
  refine wp_region_lit ?_
  refine sv ha hs (opT_assign (v := .int .i64 0) rfl rfl) rfl rfl ?_
  clear ha hs a w;intro a1 w1 A1 S1
  refine wpList_nil ?_
  replace A1 := A1.pick' (L' := [(0, va0), (1, .int .i64 p1k)]) ⟨rfl, rfl, trivial⟩
  refine nrm ?_
  refine wp_seq ?_
  refine wp_seq ?_
  refine wp_region_lit ?_
  refine sv A1 S1 (opT_assign (v := .int .i64 0) rfl rfl) rfl rfl ?_
  clear A1 S1 a1 w1;intro a2 w2 A2 S2
  refine wpList_nil ?_
  replace A2 := A2.pick' (L' := [(0, va0), (1, .int .i64 p1k), (5, .int .i64 0)]) ⟨rfl, rfl, rfl, trivial⟩
  refine nrm ?_
  obtain ⟨o1, hl1, hc1⟩ := bindL_some hm
  refine wp_cut (fun a w => ∃ s4 : (List Int) × Int × Int, o1 = .brk s4 ∧ Agr 19 a [(1, .int .i64 s4.2.1)] ∧ St I w0 w [Ch.own (rSlice 3 rInt) [va0] s4.1, F]) ?_ ?_
  · refine wp_block (wp_loopM (R := Int × (List Int)) (S := (List Int) × Int × Int) (fun s3 a w => Agr 19 a [(0, va0), (1, .int .i64 s3.2.1), (5, .int .i64 s3.2.2)] ∧ St I w0 w [Ch.own (rSlice 3 rInt) [va0] s3.1, F]) hl1 ?_ ?_)
    · exact ⟨A2.pick' ⟨rfl, rfl, rfl, trivial⟩, St.sel S2 2 [0, 1] rfl rfl⟩
    · rintro s3 o2 hm hf1 a33 w33 ⟨A33, S33⟩
      unfold m_w_markIntS_l0 at hm
      refine wp_seq ?_
      refine wp_seq ?_
      refine wp_region_lit ?_
      refine sv A33 S33 (opT_move (v := .int .i64 s3.2.2) rfl rfl) rfl rfl ?_
      clear A33 S33 a33 w33;intro a34 w34 A34 S34
      refine sv A34 S34 (opT_move (v := va0) rfl rfl) rfl rfl ?_
      clear A34 S34 a34 w34;intro a35 w35 A35 S35
      refine sv A35 S35 (opT_len_hd (v := va0) (n := s3.1.length) (St.hd S35 0 rfl).1 Try.underlying34 rfl rfl) rfl rfl ?_
      clear A35 S35 a35 w35;intro a36 w36 A36 S36
      refine sv A36 S36 (opT_cmp (k := .i64) (m := s3.2.2) (n := (s3.1.length : Int)) (c := decide (s3.2.2 < (s3.1.length : Int))) rfl rfl rfl rfl rfl) rfl rfl ?_
      clear A36 S36 a36 w36;intro a37 w37 A37 S37
      refine wpList_nil ?_
      replace A37 := A37.pick' (L' := [(0, va0), (1, .int .i64 s3.2.1), (5, .int .i64 s3.2.2), (9, .bool (decide (s3.2.2 < (s3.1.length : Int))))]) ⟨rfl, rfl, rfl, rfl, trivial⟩
      refine nrm ?_
      rcases two (decide (s3.2.2 < (s3.1.length : Int))) with hb3 | hb3
      · replace hm := ifFe hb3 hm
        refine cnd_false (b := decide (s3.2.2 < (s3.1.length : Int))) A37 rfl rfl hb3 ?_
        refine wp_exit ?_
        refine thenX ?_
        refine thenX ?_
        refine ex_in ?_
        refine nrm ?_
        exact ⟨_, loopBrk hm hf1, ⟨A37.pick' ⟨rfl, trivial⟩, St.sel S37 2 [0, 1] rfl rfl⟩⟩
      · replace hm := ifTe hb3 hm
        refine cnd_true (b := decide (s3.2.2 < (s3.1.length : Int))) A37 rfl rfl hb3 ?_
        refine wp_skip ?_
        refine nrm ?_
        refine wp_seq ?_
        refine wp_block ?_
        refine wp_seq ?_
        refine wp_region_lit ?_
        refine sv A37 S37 (opT_move (v := va0) rfl rfl) rfl rfl ?_
        clear A37 S37 a37 w37;intro a38 w38 A38 S38
        refine sv A38 S38 (opT_move (v := .int .i64 s3.2.2) rfl rfl) rfl rfl ?_
        clear A38 S38 a38 w38;intro a39 w39 A39 S39
        refine sv A39 S39 (opT_move (v := .int .i64 s3.2.1) rfl rfl) rfl rfl ?_
        clear A39 S39 a39 w39;intro a40 w40 A40 S40
        obtain ⟨x3, e3, hm⟩ := bind_some hm
        refine sv A40 S40 (opT_index_hd (xs := s3.1) (i := s3.2.2) (n := 1) (St.hd S40 0 rfl).1 Try.underlying34 ti3 rfl rfl rfl (getI_in e3)) rfl rfl ?_
        clear A40 S40 a40 w40;intro a41 w41 A41 S41
        refine seq_op A41 S41 rfl (opT_store_el (E := 3) (R := rInt) (S := rInt) (xs := s3.1) (a := x3) (b := s3.2.1) (i := s3.2.2) (k := 1) (off := 0) (f := fun x y => y) (v := va0) (d := [.int .i64 s3.2.1]) (u := .int .i64 s3.2.1) sh_int cpy_int e3 Upd.self ti3 rfl rfl rfl rfl (allC rfl allN) rfl rfl (by decide) rfl) (perm_front (i := 0) rfl) rfl ?_
        rintro _ a42 w42 - A42 (S42 : St I w0 w42 [Ch.own (rSlice 3 rInt) [va0] (s3.1.set s3.2.2.toNat s3.2.1), F])
        clear A41 S41 a41 w41
        refine wpList_nil ?_
        replace A42 := A42.pick' (L' := [(0, va0), (1, .int .i64 s3.2.1), (5, .int .i64 s3.2.2)]) ⟨rfl, rfl, rfl, trivial⟩
        refine nrm ?_
        refine wp_region_lit ?_
        refine sv A42 S42 (opT_move (v := .int .i64 s3.2.1) rfl rfl) rfl rfl ?_
        clear A42 S42 a42 w42;intro a43 w43 A43 S43
        refine sv A43 S43 (opT_add (m := s3.2.1) (n := 1) rfl rfl rfl) rfl rfl ?_
        clear A43 S43 a43 w43;intro a44 w44 A44 S44
        refine sv A44 S44 (opT_assign (v := .int .i64 (IntKind.i64.wrap (s3.2.1 + 1))) rfl rfl) rfl rfl ?_
        clear A44 S44 a44 w44;intro a45 w45 A45 S45
        refine wpList_nil ?_
        replace A45 := A45.pick' (L' := [(0, va0), (1, .int .i64 (IntKind.i64.wrap (s3.2.1 + 1))), (5, .int .i64 s3.2.2)]) ⟨rfl, rfl, rfl, trivial⟩
        refine nrmB ?_
        refine nrm ?_
        refine wp_region_lit ?_
        refine sv A45 S45 (opT_move (v := .int .i64 s3.2.2) rfl rfl) rfl rfl ?_
        clear A45 S45 a45 w45;intro a46 w46 A46 S46
        refine sv A46 S46 (opT_add (m := s3.2.2) (n := 1) rfl rfl rfl) rfl rfl ?_
        clear A46 S46 a46 w46;intro a47 w47 A47 S47
        refine sv A47 S47 (opT_assign (v := .int .i64 (IntKind.i64.wrap (s3.2.2 + 1))) rfl rfl) rfl rfl ?_
        clear A47 S47 a47 w47;intro a48 w48 A48 S48
        refine wpList_nil ?_
        replace A48 := A48.pick' (L' := [(0, va0), (1, .int .i64 (IntKind.i64.wrap (s3.2.1 + 1))), (5, .int .i64 (IntKind.i64.wrap (s3.2.2 + 1)))]) ⟨rfl, rfl, rfl, trivial⟩
        refine nrm ?_
        exact ⟨_, (Option.some.inj hm).symm, ⟨A48.pick' ⟨rfl, rfl, rfl, trivial⟩, St.sel S48 2 [0, 1] rfl rfl⟩⟩
  · rintro a49 w49 ⟨s4, ho1, A49, S49⟩
    replace hm := loopOut ho1 hc1
    clear ho1 hc1 hl1
    refine nrm ?_
    refine wp_seq ?_
    refine wp_region_lit ?_
    refine sv A49 S49 (opT_move (v := .int .i64 s4.2.1) rfl rfl) rfl rfl ?_
    clear A49 S49 a49 w49;intro a50 w50 A50 S50
    refine sv A50 S50 (opT_assign (v := .int .i64 s4.2.1) rfl rfl) rfl rfl ?_
    clear A50 S50 a50 w50;intro a51 w51 A51 S51
    refine wpList_nil ?_
    replace A51 := A51.pick' (L' := [(4, .int .i64 s4.2.1)]) ⟨rfl, trivial⟩
    refine nrm ?_
    refine wp_ret ?_
    obtain rfl := Option.some.inj hm
    exact ret_1 A51 rfl (res_tmp A51 rfl) ⟨_, rfl, rfl, _, Hp.le.rfl, St.sel (S51) 2 [0, 1] rfl rfl⟩
set_option maxHeartbeats 8000000 in
theorem c_s_l1In (p0x : Int) (p1low : Int) (p2high : Int) (r : Bool) (hm : m_s_l1In p0x p1low p2high = some r) {I : Hp} {w0 : World} : Con Try.prog 146 #[.int .i64 p0x, .int .i64 p1low, .int .i64 p2high] I w0 [] (fun v => v = .bool r) (fun v => []) := by
  refine con_of_wp (n := 15) [(0, .int .i64 p0x), (1, .int .i64 p1low), (2, .int .i64 p2high)] Try.func146 rfl rfl (Nat.le_of_ble_eq_true rfl) (args_all ⟨rfl, rfl, rfl, trivial⟩) (fun F w a ha hs => ?_) (fun v => trivial)
  unfold m_s_l1In at hm
  refine wp_seq ?_
  refine wp_region_lit ?_
  refine sv ha hs (opT_assign (v := .bool false) rfl rfl) rfl rfl ?_
  clear ha hs a w;intro a1 w1 A1 S1
  refine wpList_nil ?_
  replace A1 := A1.pick' (L' := [(0, .int .i64 p0x), (1, .int .i64 p1low), (2, .int .i64 p2high)]) ⟨rfl, rfl, rfl, trivial⟩
  refine nrm ?_
  refine wp_seq ?_
  refine wp_region_lit ?_
  refine sv A1 S1 (opT_move (v := .int .i64 p0x) rfl rfl) rfl rfl ?_
  clear A1 S1 a1 w1;intro a2 w2 A2 S2
  refine sv A2 S2 (opT_move (v := .int .i64 p1low) rfl rfl) rfl rfl ?_
  clear A2 S2 a2 w2;intro a3 w3 A3 S3
  refine sv A3 S3 (opT_cmp (k := .i64) (m := p0x) (n := p1low) (c := decide (p0x ≥ p1low)) rfl rfl rfl rfl rfl) rfl rfl ?_
  clear A3 S3 a3 w3;intro a4 w4 A4 S4
  refine sv A4 S4 (opT_move (v := .bool (decide (p0x ≥ p1low))) rfl rfl) rfl rfl ?_
  clear A4 S4 a4 w4;intro a5 w5 A5 S5
  rcases two (decide (p0x ≥ p1low)) with hb1 | hb1
  · replace hm := ifFe hb1 hm
    refine seq_skip (g := 3) (d := 10) (want := true) (b := decide (p0x ≥ p1low)) A5 S5 rfl rfl rfl hb1 rfl ?_
    intro a6 A6
    refine seq_skip (g := 3) (d := 10) (want := true) (b := decide (p0x ≥ p1low)) A6 S5 rfl rfl rfl hb1 rfl ?_
    intro a7 A7
    refine seq_skip (g := 3) (d := 10) (want := true) (b := decide (p0x ≥ p1low)) A7 S5 rfl rfl rfl hb1 rfl ?_
    intro a8 A8
    refine sv A8 S5 (opT_pick (b := decide (p0x ≥ p1low)) (v := .bool false) rfl rfl (ifF hb1)) rfl rfl ?_
    clear A8 S5 a8 w5;intro a9 w9 A9 S9
    refine sv A9 S9 (opT_assign (v := .bool false) rfl rfl) rfl rfl ?_
    clear A9 S9 a9 w9;intro a10 w10 A10 S10
    refine wpList_nil ?_
    replace A10 := A10.pick' (L' := [(6, .bool false)]) ⟨rfl, trivial⟩
    refine nrm ?_
    refine wp_ret ?_
    obtain rfl := Option.some.inj hm
    exact ret_1 A10 rfl (res_tmp A10 rfl) ⟨_, rfl, rfl, _, Hp.le.rfl, St.sel (S10) 1 [0] rfl rfl⟩
  · replace hm := ifTe hb1 hm
    refine svg (g := 3) (d := 10) (want := true) (b := decide (p0x ≥ p1low)) A5 S5 rfl rfl rfl hb1 (opT_move (v := .int .i64 p0x) rfl rfl) rfl ?_
    clear A5 S5 a5 w5;intro a11 w11 A11 S11
    refine svg (g := 3) (d := 10) (want := true) (b := decide (p0x ≥ p1low)) A11 S11 rfl rfl rfl hb1 (opT_move (v := .int .i64 p2high) rfl rfl) rfl ?_
    clear A11 S11 a11 w11;intro a12 w12 A12 S12
    refine svg (g := 3) (d := 10) (want := true) (b := decide (p0x ≥ p1low)) A12 S12 rfl rfl rfl hb1 (opT_cmp (k := .i64) (m := p0x) (n := p2high) (c := decide (p0x ≤ p2high)) rfl rfl rfl rfl rfl) rfl ?_
    clear A12 S12 a12 w12;intro a13 w13 A13 S13
    refine sv A13 S13 (opT_pick (b := decide (p0x ≥ p1low)) (v := .bool (decide (p0x ≤ p2high))) rfl rfl (ifT hb1)) rfl rfl ?_
    clear A13 S13 a13 w13;intro a14 w14 A14 S14
    refine sv A14 S14 (opT_assign (v := .bool (decide (p0x ≤ p2high))) rfl rfl) rfl rfl ?_
    clear A14 S14 a14 w14;intro a15 w15 A15 S15
    refine wpList_nil ?_
    replace A15 := A15.pick' (L' := [(6, .bool (decide (p0x ≤ p2high)))]) ⟨rfl, trivial⟩
    refine nrm ?_
    refine wp_ret ?_
    obtain rfl := Option.some.inj hm
    exact ret_1 A15 rfl (res_tmp A15 rfl) ⟨_, rfl, rfl, _, Hp.le.rfl, St.sel (S15) 1 [0] rfl rfl⟩
end Go.Proofs.Ytcihbmdppgpmjaa.D
