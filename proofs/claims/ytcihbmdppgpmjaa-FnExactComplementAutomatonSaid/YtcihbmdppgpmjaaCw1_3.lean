/- Printed by dec.py: models of functions and the walks that show them. -/
import Derived.Test.YtcihbmdppgpmjaaCw0_0
import Derived.Test.YtcihbmdppgpmjaaCw0_2
import Derived.Test.YtcihbmdppgpmjaaCw0_3
set_option linter.unusedVariables false
set_option linter.unusedSimpArgs false
set_option linter.unnecessarySimpa false
set_option maxRecDepth 100000
set_option maxHeartbeats 8000000
namespace Go.Proofs.Ytcihbmdppgpmjaa.D
open Go.RowKit
theorem c_i_Automaton_live (p0a : Int × (List Bool) × (List (List Int))) (r : List Bool) (hm : m_i_Automaton_live p0a = some r) {I : Hp} {w0 : World} (va0 : Value) (va1 : Value) (ra0 : (rSlice 4 rBool).rd I [va0] p0a.2.1) (ra1 : (rSlice 34 (rSlice 3 rInt)).rd I [va1] p0a.2.2) : Con Try.prog 96 #[.agg #[.int .i64 p0a.1, va0, va1]] I w0 [] (fun v => True) (fun v => [Ch.own (rSlice 4 rBool) [v] r]) := by
  refine con_of_wp (n := 48) [(0, .agg #[.int .i64 p0a.1, va0, va1])] Try.func96 rfl rfl (Nat.le_of_ble_eq_true rfl) (args_all ⟨rfl, trivial⟩) (fun F w a ha hs => ?_) (fun v => ⟨dp_own (dp_slice dp_bool), trivial⟩)
  unfold m_i_Automaton_live at hm
  refine wp_seq (wp_region_lit (rn ha hs (sop (opT_box (u := .agg #[.int .i64 p0a.1, va0, va1]) (l := [.int .i64 p0a.1, va0, va1]) rfl rfl rfl) (List.Perm.refl _) rfl rfl ?_)))
  rintro _ a1 w1 ⟨g1, rfl⟩ A1 (S1 : St I w0 w1 [Ch.blk g1 [.int .i64 p0a.1, va0, va1] 27, F])
  clear ha hs a w
  refine rn A1 S1 (sv (opT_assign (v := .slice none 0 0) rfl rfl) rfl rfl (enR (L' := [(1, .pointer (some ⟨g1, 0, none⟩))]) rfl ?_))
  clear A1 S1 a1 w1;intro a2 w2 A2 S2
  refine nrm (wp_seq (wp_region_lit (rn A2 S2 (sv (opT_field_addr (g := g1) (b := 0) tf27_1 rfl rfl) rfl rfl (sop (opT_load_blk (g := g1) (off := 1) (E := 27) (l := [.int .i64 p0a.1, va0, va1]) (d := [va0]) (u := va0) ti22 rfl rfl rfl rfl rfl rfl) (perm_front (i := 0) rfl) rfl rfl ?_)))))
  rintro u a3 w3 hf A3 (S3 : St I w0 w3 [Ch.blk g1 [.int .i64 p0a.1, va0, va1] 27, F])
  obtain rfl := Eq.symm hf
  clear A2 S2 a2 w2
  obtain ⟨r1, e1, hm⟩ := bind_some hm
  refine rn A3 S3 (sop (opT_call (args := #[va0]) (first := #[]) (captured := #[]) en147 rfl rfl rfl (c_g_slices_Clone_S_bool_bool p0a.2.1 _ e1 va0 ra0)) (List.Perm.refl _) rfl rfl ?_)
  rintro v1 a4 w4 - A4 (S4 : St I w0 w4 [Ch.own (rSlice 4 rBool) [v1] r1, Ch.blk g1 [.int .i64 p0a.1, va0, va1] 27, F])
  clear A3 S3 a3 w3
  refine rn A4 S4 (sv (opT_assign (v := v1) rfl rfl) rfl rfl (enR (L' := [(1, .pointer (some ⟨g1, 0, none⟩)), (3, v1)]) rfl ?_))
  clear A4 S4 a4 w4;intro a5 w5 A5 S5
  refine nrm (wp_seq (wp_seq (wp_region_lit (rn A5 S5 (sv (opT_assign (v := .bool true) rfl rfl) rfl rfl (enR (L' := [(1, .pointer (some ⟨g1, 0, none⟩)), (3, v1), (4, .bool true)]) rfl ?_))))))
  clear A5 S5 a5 w5;intro a6 w6 A6 S6
  refine nrm ?_
  obtain ⟨o35, hl9, hc27⟩ := bindL_some hm
  refine wp_cut (fun a w => ∃ s54 : (List Bool) × Bool, o35 = .brk s54 ∧ Agr 48 a [(3, v1)] ∧ St I w0 w [Ch.own (rSlice 4 rBool) [v1] s54.1, F]) ?_ ?_
  · refine wp_block (wp_loopM (R := List Bool) (S := (List Bool) × Bool) (fun s53 a w => Agr 48 a [(1, .pointer (some ⟨g1, 0, none⟩)), (3, v1), (4, .bool s53.2)] ∧ St I w0 w [Ch.own (rSlice 4 rBool) [v1] s53.1, Ch.blk g1 [.int .i64 p0a.1, va0, va1] 27, F]) hl9 ?_ ?_)
    · exact ⟨A6.pick' ⟨rfl, rfl, rfl, trivial⟩, St.sel S6 3 [0, 1, 2] rfl rfl⟩
    rintro s53 o36 hm hf9 a439 w439 ⟨A439, S439⟩
    unfold m_i_Automaton_live_l0 at hm
    refine wp_seq (wp_seq (wp_region_lit (rn A439 S439 (sv (opT_move (v := .bool s53.2) rfl rfl) rfl rfl (enR (L' := [(1, .pointer (some ⟨g1, 0, none⟩)), (3, v1), (12, .bool s53.2)]) rfl ?_)))))
    clear A439 S439 a439 w439;intro a440 w440 A440 S440
    refine nrm ?_
    rcases two (s53.2) with hb134 | hb134
    · replace hm := ifFe hb134 hm
      refine cnd_false (b := s53.2) A440 rfl rfl hb134 ?_
      exact wp_exit (thenX (thenX (ex_in (nrm (⟨_, loopBrk hm hf9, ⟨A440.pick' ⟨rfl, trivial⟩, St.sel S440 3 [0, 2] rfl rfl⟩⟩)))))
    replace hm := ifTe hb134 hm
    refine cnd_true (b := s53.2) A440 rfl rfl hb134 ?_
    refine wp_skip (nrm (wp_block (wp_seq (wp_region_lit (rn A440 S440 (sv (opT_assign (v := .bool false) rfl rfl) rfl rfl (enR (L' := [(1, .pointer (some ⟨g1, 0, none⟩)), (3, v1), (4, .bool false)]) rfl ?_)))))))
    clear A440 S440 a440 w440;intro a441 w441 A441 S441
    refine nrm (wp_seq (wp_region_lit (rn A441 S441 (sv (opT_field_addr (g := g1) (b := 0) tf27_2 rfl rfl) rfl rfl (sop (opT_load_blk (g := g1) (off := 2) (E := 27) (l := [.int .i64 p0a.1, va0, va1]) (d := [va1]) (u := va1) ti23 rfl rfl rfl rfl rfl rfl) (perm_front (i := 1) rfl) rfl rfl ?_)))))
    rintro u a442 w442 hf A442 (S442 : St I w0 w442 [Ch.blk g1 [.int .i64 p0a.1, va0, va1] 27, Ch.own (rSlice 4 rBool) [v1] s53.1, F])
    obtain rfl := Eq.symm hf
    clear A441 S441 a441 w441
    refine rn A442 S442 (sv (opT_len_hd (v := va1) (n := p0a.2.2.length) (Hd.of_rd ra1) Try.underlying23 rfl rfl) rfl rfl (sv (opT_move (v := .int .i64 0) rfl rfl) rfl rfl (enR (L' := [(1, .pointer (some ⟨g1, 0, none⟩)), (3, v1), (4, .bool false), (14, va1), (15, .int .i64 (p0a.2.2.length : Int)), (16, .int .i64 0)]) rfl ?_)))
    clear A442 S442 a442 w442;intro a443 w443 A443 S443
    refine nrm ?_
    obtain ⟨o47, hl12, hc36⟩ := bindL_some hm
    refine wp_cut (fun a w => ∃ s72 : (List Bool) × Bool × Int, o47 = .brk s72 ∧ Agr 48 a [(1, .pointer (some ⟨g1, 0, none⟩)), (3, v1), (4, .bool s72.2.1)] ∧ St I w0 w [Ch.own (rSlice 4 rBool) [v1] s72.1, Ch.blk g1 [.int .i64 p0a.1, va0, va1] 27, F]) ?_ ?_
    · refine wp_block (wp_loopM (R := List Bool) (S := (List Bool) × Bool × Int) (fun s71 a w => Agr 48 a [(1, .pointer (some ⟨g1, 0, none⟩)), (3, v1), (4, .bool s71.2.1), (14, va1), (15, .int .i64 (p0a.2.2.length : Int)), (16, .int .i64 s71.2.2)] ∧ St I w0 w [Ch.own (rSlice 4 rBool) [v1] s71.1, Ch.blk g1 [.int .i64 p0a.1, va0, va1] 27, F]) hl12 ?_ ?_)
      · exact ⟨A443.pick' ⟨rfl, rfl, rfl, rfl, rfl, rfl, trivial⟩, St.sel S443 3 [1, 0, 2] rfl rfl⟩
      rintro s71 o48 hm hf12 a584 w584 ⟨A584, S584⟩
      unfold m_i_Automaton_live_l1 at hm
      refine wp_seq (wp_region_lit (rn A584 S584 (sv (opT_cmp (k := .i64) (m := s71.2.2) (n := (p0a.2.2.length : Int)) (c := decide (s71.2.2 < (p0a.2.2.length : Int))) rfl rfl rfl rfl rfl) rfl rfl (enR (L' := [(1, .pointer (some ⟨g1, 0, none⟩)), (3, v1), (4, .bool s71.2.1), (14, va1), (15, .int .i64 (p0a.2.2.length : Int)), (16, .int .i64 s71.2.2), (17, .bool (decide (s71.2.2 < (p0a.2.2.length : Int))))]) rfl ?_))))
      clear A584 S584 a584 w584;intro a585 w585 A585 S585
      refine nrm (wp_seq ?_)
      rcases two (decide (s71.2.2 < (p0a.2.2.length : Int))) with hb179 | hb179
      · replace hm := ifFe hb179 hm
        refine cnd_false (b := decide (s71.2.2 < (p0a.2.2.length : Int))) A585 rfl rfl hb179 ?_
        exact wp_exit (thenX (thenX (ex_in (nrm (⟨_, loopBrk hm hf12, ⟨A585.pick' ⟨rfl, rfl, rfl, trivial⟩, St.sel S585 3 [0, 1, 2] rfl rfl⟩⟩)))))
      replace hm := ifTe hb179 hm
      refine cnd_true (b := decide (s71.2.2 < (p0a.2.2.length : Int))) A585 rfl rfl hb179 ?_
      refine wp_skip (nrm (wp_seq (wp_block (wp_seq (wp_region_lit (rn A585 S585 (sv (opT_move (v := .int .i64 s71.2.2) rfl rfl) rfl rfl ?_)))))))
      obtain ⟨x201, e202, hm⟩ := bind_some hm
      refine sv (opT_index_hd (xs := p0a.2.2) (i := s71.2.2) (n := 1) (Hd.of_rd ra1) Try.underlying23 ti34 rfl rfl rfl (getI_in e202)) rfl rfl (so0 (opT_load_el (S := rSlice 3 rInt) (xs := p0a.2.2) (a := x201) (i := s71.2.2) (k := 1) (off := 0) (f := fun (x : List Int) => x) ra1 e202 Fld.self ti34 rfl rfl rfl rfl rfl) rfl rfl ?_)
      rintro v10 a586 w586 hf A586 S586
      have r10 := lds_sl hf
      clear hf
      clear A585 S585 a585 w585
      refine rn A586 S586 (sv (opT_assign (v := .int .i64 s71.2.2) rfl rfl) rfl rfl (sv (opT_assign (v := v10) rfl rfl) rfl rfl (enR (L' := [(1, .pointer (some ⟨g1, 0, none⟩)), (3, v1), (4, .bool s71.2.1), (5, .int .i64 s71.2.2), (6, v10), (14, va1), (15, .int .i64 (p0a.2.2.length : Int)), (16, .int .i64 s71.2.2)]) rfl ?_)))
      clear A586 S586 a586 w586;intro a587 w587 A587 S587
      refine nrm (wp_seq (wp_region_lit (rn A587 S587 (sv (opT_move (v := v10) rfl rfl) rfl rfl (sv (opT_len_hd (v := v10) (n := x201.length) (Hd.of_rd r10) Try.underlying34 rfl rfl) rfl rfl (sv (opT_move (v := .int .i64 0) rfl rfl) rfl rfl (enR (L' := [(1, .pointer (some ⟨g1, 0, none⟩)), (3, v1), (4, .bool s71.2.1), (5, .int .i64 s71.2.2), (14, va1), (15, .int .i64 (p0a.2.2.length : Int)), (16, .int .i64 s71.2.2), (21, v10), (22, .int .i64 (x201.length : Int)), (23, .int .i64 0)]) rfl ?_)))))))
      clear A587 S587 a587 w587;intro a588 w588 A588 S588
      refine nrm ?_
      obtain ⟨o51, hl13, hc39⟩ := bindL_some hm
      refine wp_cut (fun a w => ∃ s78 : (List Bool) × Bool × Int, o51 = .brk s78 ∧ Agr 48 a [(1, .pointer (some ⟨g1, 0, none⟩)), (3, v1), (4, .bool s78.2.1), (14, va1), (15, .int .i64 (p0a.2.2.length : Int)), (16, .int .i64 s71.2.2)] ∧ St I w0 w [Ch.own (rSlice 4 rBool) [v1] s78.1, Ch.blk g1 [.int .i64 p0a.1, va0, va1] 27, F]) ?_ ?_
      · refine wp_block (wp_loopM (R := List Bool) (S := (List Bool) × Bool × Int) (fun s77 a w => Agr 48 a [(1, .pointer (some ⟨g1, 0, none⟩)), (3, v1), (4, .bool s77.2.1), (5, .int .i64 s71.2.2), (14, va1), (15, .int .i64 (p0a.2.2.length : Int)), (16, .int .i64 s71.2.2), (21, v10), (22, .int .i64 (x201.length : Int)), (23, .int .i64 s77.2.2)] ∧ St I w0 w [Ch.own (rSlice 4 rBool) [v1] s77.1, Ch.blk g1 [.int .i64 p0a.1, va0, va1] 27, F]) hl13 ?_ ?_)
        · exact ⟨A588.pick' ⟨rfl, rfl, rfl, rfl, rfl, rfl, rfl, rfl, rfl, rfl, trivial⟩, St.sel S588 3 [0, 1, 2] rfl rfl⟩
        rintro s77 o52 hm hf13 a631 w631 ⟨A631, S631⟩
        unfold m_i_Automaton_live_l2 at hm
        refine wp_seq (wp_region_lit (rn A631 S631 (sv (opT_cmp (k := .i64) (m := s77.2.2) (n := (x201.length : Int)) (c := decide (s77.2.2 < (x201.length : Int))) rfl rfl rfl rfl rfl) rfl rfl (enR (L' := [(1, .pointer (some ⟨g1, 0, none⟩)), (3, v1), (4, .bool s77.2.1), (5, .int .i64 s71.2.2), (14, va1), (15, .int .i64 (p0a.2.2.length : Int)), (16, .int .i64 s71.2.2), (21, v10), (22, .int .i64 (x201.length : Int)), (23, .int .i64 s77.2.2), (24, .bool (decide (s77.2.2 < (x201.length : Int))))]) rfl ?_))))
        clear A631 S631 a631 w631;intro a632 w632 A632 S632
        refine nrm (wp_seq ?_)
        rcases two (decide (s77.2.2 < (x201.length : Int))) with hb194 | hb194
        · replace hm := ifFe hb194 hm
          refine cnd_false (b := decide (s77.2.2 < (x201.length : Int))) A632 rfl rfl hb194 ?_
          exact wp_exit (thenX (thenX (ex_in (nrm (⟨_, loopBrk hm hf13, ⟨A632.pick' ⟨rfl, rfl, rfl, rfl, rfl, rfl, trivial⟩, St.sel S632 3 [0, 1, 2] rfl rfl⟩⟩)))))
        replace hm := ifTe hb194 hm
        refine cnd_true (b := decide (s77.2.2 < (x201.length : Int))) A632 rfl rfl hb194 ?_
        refine wp_skip (nrm ?_)
        obtain ⟨s79, hj27, hm⟩ := bind_some hm
        refine wp_seq_cut (fun a w => Agr 48 a [(1, .pointer (some ⟨g1, 0, none⟩)), (3, v1), (4, .bool s79.2), (5, .int .i64 s71.2.2), (14, va1), (15, .int .i64 (p0a.2.2.length : Int)), (16, .int .i64 s71.2.2), (21, v10), (22, .int .i64 (x201.length : Int)), (23, .int .i64 s77.2.2)] ∧ St I w0 w [Ch.own (rSlice 4 rBool) [v1] s79.1, Ch.blk g1 [.int .i64 p0a.1, va0, va1] 27, F]) ?_ ?_
        · replace hm := hj27
          refine wp_block (wp_seq (wp_region_lit ?_))
          obtain ⟨x222, e223, hm⟩ := bind_some hm
          refine rn A632 S632 (sv (opT_index_hd (xs := x201) (i := s77.2.2) (n := 1) (Hd.of_rd r10) Try.underlying34 ti3 rfl rfl rfl (getI_in e223)) rfl rfl (so0 (opT_load_el (S := rInt) (xs := x201) (a := x222) (i := s77.2.2) (k := 1) (off := 0) (f := fun (x : Int) => x) r10 e223 Fld.self ti3 rfl rfl rfl rfl rfl) rfl rfl ?_))
          rintro u a642 w642 hf A642 S642
          obtain rfl := lds_one hf
          clear A632 S632 a632 w632
          refine rn A642 S642 (sv (opT_assign (v := .int .i64 x222) rfl rfl) rfl rfl (enR (L' := [(1, .pointer (some ⟨g1, 0, none⟩)), (3, v1), (4, .bool s77.2.1), (5, .int .i64 s71.2.2), (8, .int .i64 x222), (14, va1), (15, .int .i64 (p0a.2.2.length : Int)), (16, .int .i64 s71.2.2), (21, v10), (22, .int .i64 (x201.length : Int)), (23, .int .i64 s77.2.2)]) rfl ?_))
          clear A642 S642 a642 w642;intro a643 w643 A643 S643
          refine nrm (wp_seq (wp_region_lit (rn A643 S643 (sv (opT_move (v := .int .i64 x222) rfl rfl) rfl rfl (sv (opT_cmp (k := .i64) (m := x222) (n := 0) (c := decide (x222 ≥ 0)) rfl rfl rfl rfl rfl) rfl rfl (sv (opT_move (v := .bool (decide (x222 ≥ 0))) rfl rfl) rfl rfl ?_))))))
          rcases two (decide (x222 ≥ 0)) with hb198 | hb198
          · replace hm := ifFe hb198 hm
            refine ssk (g := 2) (d := 29) (want := true) (b := decide (x222 ≥ 0)) rfl rfl rfl hb198 rfl (ssk (g := 2) (d := 29) (want := true) (b := decide (x222 ≥ 0)) rfl rfl rfl hb198 rfl (ssk (g := 2) (d := 29) (want := true) (b := decide (x222 ≥ 0)) rfl rfl rfl hb198 rfl (ssk (g := 2) (d := 29) (want := true) (b := decide (x222 ≥ 0)) rfl rfl rfl hb198 rfl (sv (opT_pick (b := decide (x222 ≥ 0)) (v := .bool false) rfl rfl (ifF hb198)) rfl rfl (sv (opT_move (v := .bool false) rfl rfl) rfl rfl (ssk (g := 8) (d := 35) (want := true) (b := false) rfl rfl rfl rfl rfl (ssk (g := 8) (d := 35) (want := true) (b := false) rfl rfl rfl rfl rfl (ssk (g := 8) (d := 35) (want := true) (b := false) rfl rfl rfl rfl rfl (ssk (g := 8) (d := 35) (want := true) (b := false) rfl rfl rfl rfl rfl (ssk (g := 8) (d := 35) (want := true) (b := false) rfl rfl rfl rfl rfl (sv (opT_pick (b := false) (v := .bool false) rfl rfl (ifF rfl)) rfl rfl (enR (L' := [(1, .pointer (some ⟨g1, 0, none⟩)), (3, v1), (4, .bool s77.2.1), (5, .int .i64 s71.2.2), (14, va1), (15, .int .i64 (p0a.2.2.length : Int)), (16, .int .i64 s71.2.2), (21, v10), (22, .int .i64 (x201.length : Int)), (23, .int .i64 s77.2.2), (41, .bool false)]) rfl ?_))))))))))))
            clear A643 S643 a643 w643;intro a644 w644 A644 S644
            refine nrm (cnd_false (b := false) A644 rfl rfl rfl ?_)
            refine wp_skip (nrmB (nrm ?_))
            obtain rfl := Option.some.inj hm
            exact ⟨A644.pick' ⟨rfl, rfl, rfl, rfl, rfl, rfl, rfl, rfl, rfl, rfl, trivial⟩, St.sel S644 3 [0, 1, 2] rfl rfl⟩
          replace hm := ifTe hb198 hm
          refine svg (g := 2) (d := 29) (want := true) (b := decide (x222 ≥ 0)) rfl rfl rfl hb198 (opT_move (v := v1) rfl rfl) rfl (svg (g := 2) (d := 29) (want := true) (b := decide (x222 ≥ 0)) rfl rfl rfl hb198 (opT_move (v := .int .i64 x222) rfl rfl) rfl ?_)
          obtain ⟨x223, e224, hm⟩ := bind_some hm
          refine svg (g := 2) (d := 29) (want := true) (b := decide (x222 ≥ 0)) rfl rfl rfl hb198 (opT_index_hd (xs := s77.1) (i := x222) (n := 1) (St.hd S643 0 rfl).1 Try.underlying22 ti4 rfl rfl rfl (getI_in e224)) rfl (sopg (g := 2) (d := 29) (want := true) (b := decide (x222 ≥ 0)) rfl rfl rfl hb198 (opT_load_own (E := 4) (R := rBool) (S := rBool) (xs := s77.1) (a := x223) (i := x222) (k := 1) (off := 0) (f := fun (x : Bool) => x) sh_bool e224 Fld.self ti4 rfl rfl rfl rfl rfl) (perm_front (i := 0) rfl) rfl ?_)
          rintro u a645 w645 hf A645 (S645 : St I w0 w645 [Ch.own (rSlice 4 rBool) [v1] s77.1, Ch.blk g1 [.int .i64 p0a.1, va0, va1] 27, F])
          obtain rfl := lds_one hf
          clear A643 S643 a643 w643
          refine rn A645 S645 (sv (opT_pick (b := decide (x222 ≥ 0)) (v := .bool x223) rfl rfl (ifT hb198)) rfl rfl (sv (opT_move (v := .bool x223) rfl rfl) rfl rfl ?_))
          rcases two (x223) with hb199 | hb199
          · replace hm := ifFe hb199 hm
            refine ssk (g := 8) (d := 35) (want := true) (b := x223) rfl rfl rfl hb199 rfl (ssk (g := 8) (d := 35) (want := true) (b := x223) rfl rfl rfl hb199 rfl (ssk (g := 8) (d := 35) (want := true) (b := x223) rfl rfl rfl hb199 rfl (ssk (g := 8) (d := 35) (want := true) (b := x223) rfl rfl rfl hb199 rfl (ssk (g := 8) (d := 35) (want := true) (b := x223) rfl rfl rfl hb199 rfl (sv (opT_pick (b := x223) (v := .bool false) rfl rfl (ifF hb199)) rfl rfl (enR (L' := [(1, .pointer (some ⟨g1, 0, none⟩)), (3, v1), (4, .bool s77.2.1), (5, .int .i64 s71.2.2), (14, va1), (15, .int .i64 (p0a.2.2.length : Int)), (16, .int .i64 s71.2.2), (21, v10), (22, .int .i64 (x201.length : Int)), (23, .int .i64 s77.2.2), (41, .bool false)]) rfl ?_))))))
            clear A645 S645 a645 w645;intro a646 w646 A646 S646
            refine nrm (cnd_false (b := false) A646 rfl rfl rfl ?_)
            refine wp_skip (nrmB (nrm ?_))
            obtain rfl := Option.some.inj hm
            exact ⟨A646.pick' ⟨rfl, rfl, rfl, rfl, rfl, rfl, rfl, rfl, rfl, rfl, trivial⟩, St.sel S646 3 [0, 1, 2] rfl rfl⟩
          replace hm := ifTe hb199 hm
          refine svg (g := 8) (d := 35) (want := true) (b := x223) rfl rfl rfl hb199 (opT_move (v := v1) rfl rfl) rfl (svg (g := 8) (d := 35) (want := true) (b := x223) rfl rfl rfl hb199 (opT_move (v := .int .i64 s71.2.2) rfl rfl) rfl ?_)
          obtain ⟨x224, e225, hm⟩ := bind_some hm
          refine svg (g := 8) (d := 35) (want := true) (b := x223) rfl rfl rfl hb199 (opT_index_hd (xs := s77.1) (i := s71.2.2) (n := 1) (St.hd S645 0 rfl).1 Try.underlying22 ti4 rfl rfl rfl (getI_in e225)) rfl (sopg (g := 8) (d := 35) (want := true) (b := x223) rfl rfl rfl hb199 (opT_load_own (E := 4) (R := rBool) (S := rBool) (xs := s77.1) (a := x224) (i := s71.2.2) (k := 1) (off := 0) (f := fun (x : Bool) => x) sh_bool e225 Fld.self ti4 rfl rfl rfl rfl rfl) (perm_front (i := 0) rfl) rfl ?_)
          rintro u a647 w647 hf A647 (S647 : St I w0 w647 [Ch.own (rSlice 4 rBool) [v1] s77.1, Ch.blk g1 [.int .i64 p0a.1, va0, va1] 27, F])
          obtain rfl := lds_one hf
          clear A645 S645 a645 w645
          refine rn A647 S647 (svg (g := 8) (d := 35) (want := true) (b := x223) rfl rfl rfl hb199 (opT_not (b := x224) rfl rfl) rfl (sv (opT_pick (b := x223) (v := .bool (!x224)) rfl rfl (ifT hb199)) rfl rfl (enR (L' := [(1, .pointer (some ⟨g1, 0, none⟩)), (3, v1), (4, .bool s77.2.1), (5, .int .i64 s71.2.2), (14, va1), (15, .int .i64 (p0a.2.2.length : Int)), (16, .int .i64 s71.2.2), (21, v10), (22, .int .i64 (x201.length : Int)), (23, .int .i64 s77.2.2), (41, .bool (!x224))]) rfl ?_)))
          clear A647 S647 a647 w647;intro a648 w648 A648 S648
          refine nrm ?_
          rcases two (x224) with hb200 | hb200
          · replace hm := ifFe hb200 hm
            refine cnd_true (b := !x224) A648 rfl rfl (notT hb200) ?_
            refine wp_seq (wp_region_lit (rn A648 S648 (sv (opT_move (v := v1) rfl rfl) rfl rfl (sv (opT_move (v := .int .i64 s71.2.2) rfl rfl) rfl rfl ?_))))
            obtain ⟨x225, e226, hm⟩ := bind_some hm
            refine sv (opT_index_hd (xs := s77.1) (i := s71.2.2) (n := 1) (St.hd S648 0 rfl).1 Try.underlying22 ti4 rfl rfl rfl (getI_in e226)) rfl rfl (sop (opT_store_el (E := 4) (R := rBool) (S := rBool) (xs := s77.1) (a := x225) (b := true) (i := s71.2.2) (k := 1) (off := 0) (f := fun x y => y) (v := v1) (d := [.bool true]) (u := .bool true) sh_bool cpy_bool e226 Upd.self ti4 rfl rfl rfl rfl (allC rfl allN) rfl rfl (by decide) rfl) (perm_front (i := 0) rfl) rfl rfl ?_)
            rintro _ a649 w649 - A649 (S649 : St I w0 w649 [Ch.own (rSlice 4 rBool) [v1] (s77.1.set s71.2.2.toNat true), Ch.blk g1 [.int .i64 p0a.1, va0, va1] 27, F])
            clear A648 S648 a648 w648
            replace A649 := A649.pk (L' := [(1, .pointer (some ⟨g1, 0, none⟩)), (3, v1), (5, .int .i64 s71.2.2), (14, va1), (15, .int .i64 (p0a.2.2.length : Int)), (16, .int .i64 s71.2.2), (21, v10), (22, .int .i64 (x201.length : Int)), (23, .int .i64 s77.2.2)]) rfl
            refine wpList_nil (nrm (wp_region_lit (rn A649 S649 (sv (opT_assign (v := .bool true) rfl rfl) rfl rfl (enR (L' := [(1, .pointer (some ⟨g1, 0, none⟩)), (3, v1), (4, .bool true), (5, .int .i64 s71.2.2), (14, va1), (15, .int .i64 (p0a.2.2.length : Int)), (16, .int .i64 s71.2.2), (21, v10), (22, .int .i64 (x201.length : Int)), (23, .int .i64 s77.2.2)]) rfl ?_)))))
            clear A649 S649 a649 w649;intro a650 w650 A650 S650
            refine nrmB (nrm ?_)
            obtain rfl := Option.some.inj hm
            exact ⟨A650.pick' ⟨rfl, rfl, rfl, rfl, rfl, rfl, rfl, rfl, rfl, rfl, trivial⟩, St.sel S650 3 [0, 1, 2] rfl rfl⟩
          replace hm := ifTe hb200 hm
          refine cnd_false (b := !x224) A648 rfl rfl (notF hb200) ?_
          refine wp_skip (nrmB (nrm ?_))
          obtain rfl := Option.some.inj hm
          exact ⟨A648.pick' ⟨rfl, rfl, rfl, rfl, rfl, rfl, rfl, rfl, rfl, rfl, trivial⟩, St.sel S648 3 [0, 1, 2] rfl rfl⟩
        rintro a651 w651 ⟨A651, S651⟩
        refine wp_region_lit (rn A651 S651 (sv (opT_add (m := s77.2.2) (n := 1) rfl rfl rfl) rfl rfl (sv (opT_move (v := .int .i64 (IntKind.i64.wrap (s77.2.2 + 1))) rfl rfl) rfl rfl (enR (L' := [(1, .pointer (some ⟨g1, 0, none⟩)), (3, v1), (4, .bool s79.2), (5, .int .i64 s71.2.2), (14, va1), (15, .int .i64 (p0a.2.2.length : Int)), (16, .int .i64 s71.2.2), (21, v10), (22, .int .i64 (x201.length : Int)), (23, .int .i64 (IntKind.i64.wrap (s77.2.2 + 1)))]) rfl ?_))))
        clear A651 S651 a651 w651;intro a652 w652 A652 S652
        exact nrm (⟨_, (Option.some.inj hm).symm, ⟨A652.pick' ⟨rfl, rfl, rfl, rfl, rfl, rfl, rfl, rfl, rfl, rfl, trivial⟩, St.sel S652 3 [0, 1, 2] rfl rfl⟩⟩)
      rintro a653 w653 ⟨s78, ho38, A653, S653⟩
      replace hm := loopOut ho38 hc39
      clear ho38 hc39 hl13
      refine nrmB (nrm (wp_region_lit (rn A653 S653 (sv (opT_add (m := s71.2.2) (n := 1) rfl rfl rfl) rfl rfl (sv (opT_move (v := .int .i64 (IntKind.i64.wrap (s71.2.2 + 1))) rfl rfl) rfl rfl (enR (L' := [(1, .pointer (some ⟨g1, 0, none⟩)), (3, v1), (4, .bool s78.2.1), (14, va1), (15, .int .i64 (p0a.2.2.length : Int)), (16, .int .i64 (IntKind.i64.wrap (s71.2.2 + 1)))]) rfl ?_))))))
      clear A653 S653 a653 w653;intro a654 w654 A654 S654
      exact nrm (⟨_, (Option.some.inj hm).symm, ⟨A654.pick' ⟨rfl, rfl, rfl, rfl, rfl, rfl, trivial⟩, St.sel S654 3 [0, 1, 2] rfl rfl⟩⟩)
    rintro a655 w655 ⟨s72, ho39, A655, S655⟩
    replace hm := loopOut ho39 hc36
    clear ho39 hc36 hl12
    exact nrmB (nrm (⟨_, (Option.some.inj hm).symm, ⟨A655.pick' ⟨rfl, rfl, rfl, trivial⟩, St.sel S655 3 [0, 1, 2] rfl rfl⟩⟩))
  rintro a656 w656 ⟨s54, ho40, A656, S656⟩
  replace hm := loopOut ho40 hc27
  clear ho40 hc27 hl9
  refine nrm (wp_seq (wp_region_lit (rn A656 S656 (sv (opT_move (v := v1) rfl rfl) rfl rfl (sv (opT_assign (v := v1) rfl rfl) rfl rfl (enR (L' := [(2, v1)]) rfl ?_))))))
  clear A656 S656 a656 w656;intro a657 w657 A657 S657
  refine nrm (wp_ret ?_)
  obtain rfl := Option.some.inj hm
  exact ret_1 A657 rfl (res_tmp A657 rfl) ⟨_, rfl, trivial, _, Hp.le.rfl, St.sel (S657) 2 [0, 1] rfl rfl⟩
theorem c_i_IsValidAutomaton (p0a : Int × (List Bool) × (List (List Int))) (r : Bool) (hm : m_i_IsValidAutomaton p0a = some r) {I : Hp} {w0 : World} (va0 : Value) (va1 : Value) (ra0 : (rSlice 4 rBool).rd I [va0] p0a.2.1) (ra1 : (rSlice 34 (rSlice 3 rInt)).rd I [va1] p0a.2.2) : Con Try.prog 51 #[.agg #[.int .i64 p0a.1, va0, va1]] I w0 [] (fun v => v = .bool r) (fun v => []) := by
  refine con_of_wp (n := 52) [(0, .agg #[.int .i64 p0a.1, va0, va1])] Try.func51 rfl rfl (Nat.le_of_ble_eq_true rfl) (args_all ⟨rfl, trivial⟩) (fun F w a ha hs => ?_) (fun v => trivial)
  unfold m_i_IsValidAutomaton at hm
  refine wp_seq (wp_region_lit (rn ha hs (sop (opT_box (u := .agg #[.int .i64 p0a.1, va0, va1]) (l := [.int .i64 p0a.1, va0, va1]) rfl rfl rfl) (List.Perm.refl _) rfl rfl ?_)))
  rintro _ a1 w1 ⟨g1, rfl⟩ A1 (S1 : St I w0 w1 [Ch.blk g1 [.int .i64 p0a.1, va0, va1] 27, F])
  clear ha hs a w
  refine rn A1 S1 (sv (opT_assign (v := .bool false) rfl rfl) rfl rfl (enR (L' := [(1, .pointer (some ⟨g1, 0, none⟩))]) rfl ?_))
  clear A1 S1 a1 w1;intro a2 w2 A2 S2
  refine nrm (wp_seq (wp_region_lit (rn A2 S2 (sv (opT_field_addr (g := g1) (b := 0) tf27_1 rfl rfl) rfl rfl (sop (opT_load_blk (g := g1) (off := 1) (E := 27) (l := [.int .i64 p0a.1, va0, va1]) (d := [va0]) (u := va0) ti22 rfl rfl rfl rfl rfl rfl) (perm_front (i := 0) rfl) rfl rfl ?_)))))
  rintro u a3 w3 hf A3 (S3 : St I w0 w3 [Ch.blk g1 [.int .i64 p0a.1, va0, va1] 27, F])
  obtain rfl := Eq.symm hf
  clear A2 S2 a2 w2
  refine rn A3 S3 (sv (opT_len_hd (v := va0) (n := p0a.2.1.length) (Hd.of_rd ra0) Try.underlying22 rfl rfl) rfl rfl (sv (opT_assign (v := .int .i64 (p0a.2.1.length : Int)) rfl rfl) rfl rfl (enR (L' := [(1, .pointer (some ⟨g1, 0, none⟩)), (3, .int .i64 (p0a.2.1.length : Int))]) rfl ?_)))
  clear A3 S3 a3 w3;intro a4 w4 A4 S4
  refine nrm (wp_seq (wp_seq (wp_region_lit (rn A4 S4 (sv (opT_move (v := .int .i64 (p0a.2.1.length : Int)) rfl rfl) rfl rfl ?_)))))
  obtain ⟨r1, e1, hm⟩ := bind_some hm
  refine so0 (opT_call (args := #[.int .i64 (p0a.2.1.length : Int), .int .i64 1, .int .i64 12]) (first := #[]) (captured := #[]) en95 rfl rfl rfl (c_i_within (p0a.2.1.length : Int) 1 12 _ e1  )) rfl rfl ?_
  rintro u a5 w5 hf A5 S5
  obtain rfl := Eq.symm hf
  clear A4 S4 a4 w4
  refine rn A5 S5 (sv (opT_not (b := r1) rfl rfl) rfl rfl (sv (opT_move (v := .bool (!r1)) rfl rfl) rfl rfl ?_))
  rcases two (r1) with hb1 | hb1
  · replace hm := ifFe hb1 hm
    refine ssk (g := 3) (d := 14) (want := false) (b := !r1) rfl rfl rfl (notT hb1) rfl (ssk (g := 3) (d := 14) (want := false) (b := !r1) rfl rfl rfl (notT hb1) rfl (ssk (g := 3) (d := 14) (want := false) (b := !r1) rfl rfl rfl (notT hb1) rfl (ssk (g := 3) (d := 14) (want := false) (b := !r1) rfl rfl rfl (notT hb1) rfl (ssk (g := 3) (d := 14) (want := false) (b := !r1) rfl rfl rfl (notT hb1) rfl (ssk (g := 3) (d := 14) (want := false) (b := !r1) rfl rfl rfl (notT hb1) rfl (sv (opT_pick (b := !r1) (v := .bool true) rfl rfl (ifT (notT hb1))) rfl rfl (sv (opT_move (v := .bool true) rfl rfl) rfl rfl (ssk (g := 11) (d := 22) (want := false) (b := true) rfl rfl rfl rfl rfl (ssk (g := 11) (d := 22) (want := false) (b := true) rfl rfl rfl rfl rfl (ssk (g := 11) (d := 22) (want := false) (b := true) rfl rfl rfl rfl rfl (ssk (g := 11) (d := 22) (want := false) (b := true) rfl rfl rfl rfl rfl (ssk (g := 11) (d := 22) (want := false) (b := true) rfl rfl rfl rfl rfl (sv (opT_pick (b := true) (v := .bool true) rfl rfl (ifT rfl)) rfl rfl (enR (L' := [(1, .pointer (some ⟨g1, 0, none⟩)), (3, .int .i64 (p0a.2.1.length : Int)), (28, .bool true)]) rfl ?_))))))))))))))
    clear A5 S5 a5 w5;intro a6 w6 A6 S6
    refine nrm (cnd_true (b := true) A6 rfl rfl rfl ?_)
    refine wp_seq (wp_region_lit (rn A6 S6 (sv (opT_assign (v := .bool false) rfl rfl) rfl rfl (enR (L' := [(2, .bool false)]) rfl ?_))))
    clear A6 S6 a6 w6;intro a7 w7 A7 S7
    refine nrm (wp_ret (thenR ?_))
    obtain rfl := Option.some.inj hm
    exact ret_1 A7 rfl (res_tmp A7 rfl) ⟨_, rfl, rfl, _, Hp.le.rfl, St.sel (S7) 2 [1] rfl rfl⟩
  replace hm := ifTe hb1 hm
  refine svg (g := 3) (d := 14) (want := false) (b := !r1) rfl rfl rfl (notF hb1) (opT_field_addr (g := g1) (b := 0) tf27_0 rfl rfl) rfl (sopg (g := 3) (d := 14) (want := false) (b := !r1) rfl rfl rfl (notF hb1) (opT_load_blk (g := g1) (off := 0) (E := 27) (l := [.int .i64 p0a.1, va0, va1]) (d := [.int .i64 p0a.1]) (u := .int .i64 p0a.1) ti3 rfl rfl rfl rfl rfl rfl) (perm_front (i := 0) rfl) rfl ?_)
  rintro u a8 w8 hf A8 (S8 : St I w0 w8 [Ch.blk g1 [.int .i64 p0a.1, va0, va1] 27, F])
  obtain rfl := Eq.symm hf
  clear A5 S5 a5 w5
  refine rn A8 S8 (svg (g := 3) (d := 14) (want := false) (b := !r1) rfl rfl rfl (notF hb1) (opT_move (v := .int .i64 (p0a.2.1.length : Int)) rfl rfl) rfl (svg (g := 3) (d := 14) (want := false) (b := !r1) rfl rfl rfl (notF hb1) (opT_sub (m := (p0a.2.1.length : Int)) (n := 1) rfl rfl rfl) rfl ?_))
  obtain ⟨r2, e2, hm⟩ := bind_some hm
  refine so0g (g := 3) (d := 14) (want := false) (b := !r1) rfl rfl rfl (notF hb1) (opT_call (args := #[.int .i64 p0a.1, .int .i64 0, .int .i64 (IntKind.i64.wrap ((p0a.2.1.length : Int) - 1))]) (first := #[]) (captured := #[]) en95 rfl rfl rfl (c_i_within p0a.1 0 (IntKind.i64.wrap ((p0a.2.1.length : Int) - 1)) _ e2  )) rfl ?_
  rintro u a9 w9 hf A9 S9
  obtain rfl := Eq.symm hf
  clear A8 S8 a8 w8
  refine rn A9 S9 (svg (g := 3) (d := 14) (want := false) (b := !r1) rfl rfl rfl (notF hb1) (opT_not (b := r2) rfl rfl) rfl (sv (opT_pick (b := !r1) (v := .bool (!r2)) rfl rfl (ifF (notF hb1))) rfl rfl (sv (opT_move (v := .bool (!r2)) rfl rfl) rfl rfl ?_)))
  rcases two (r2) with hb2 | hb2
  · replace hm := ifFe hb2 hm
    refine ssk (g := 11) (d := 22) (want := false) (b := !r2) rfl rfl rfl (notT hb2) rfl (ssk (g := 11) (d := 22) (want := false) (b := !r2) rfl rfl rfl (notT hb2) rfl (ssk (g := 11) (d := 22) (want := false) (b := !r2) rfl rfl rfl (notT hb2) rfl (ssk (g := 11) (d := 22) (want := false) (b := !r2) rfl rfl rfl (notT hb2) rfl (ssk (g := 11) (d := 22) (want := false) (b := !r2) rfl rfl rfl (notT hb2) rfl (sv (opT_pick (b := !r2) (v := .bool true) rfl rfl (ifT (notT hb2))) rfl rfl (enR (L' := [(1, .pointer (some ⟨g1, 0, none⟩)), (3, .int .i64 (p0a.2.1.length : Int)), (28, .bool true)]) rfl ?_))))))
    clear A9 S9 a9 w9;intro a10 w10 A10 S10
    refine nrm (cnd_true (b := true) A10 rfl rfl rfl ?_)
    refine wp_seq (wp_region_lit (rn A10 S10 (sv (opT_assign (v := .bool false) rfl rfl) rfl rfl (enR (L' := [(2, .bool false)]) rfl ?_))))
    clear A10 S10 a10 w10;intro a11 w11 A11 S11
    refine nrm (wp_ret (thenR ?_))
    obtain rfl := Option.some.inj hm
    exact ret_1 A11 rfl (res_tmp A11 rfl) ⟨_, rfl, rfl, _, Hp.le.rfl, St.sel (S11) 2 [1] rfl rfl⟩
  replace hm := ifTe hb2 hm
  refine svg (g := 11) (d := 22) (want := false) (b := !r2) rfl rfl rfl (notF hb2) (opT_field_addr (g := g1) (b := 0) tf27_2 rfl rfl) rfl (sopg (g := 11) (d := 22) (want := false) (b := !r2) rfl rfl rfl (notF hb2) (opT_load_blk (g := g1) (off := 2) (E := 27) (l := [.int .i64 p0a.1, va0, va1]) (d := [va1]) (u := va1) ti23 rfl rfl rfl rfl rfl rfl) (perm_front (i := 0) rfl) rfl ?_)
  rintro u a12 w12 hf A12 (S12 : St I w0 w12 [Ch.blk g1 [.int .i64 p0a.1, va0, va1] 27, F])
  obtain rfl := Eq.symm hf
  clear A9 S9 a9 w9
  refine rn A12 S12 (svg (g := 11) (d := 22) (want := false) (b := !r2) rfl rfl rfl (notF hb2) (opT_len_hd (v := va1) (n := p0a.2.2.length) (Hd.of_rd ra1) Try.underlying23 rfl rfl) rfl (svg (g := 11) (d := 22) (want := false) (b := !r2) rfl rfl rfl (notF hb2) (opT_move (v := .int .i64 (p0a.2.1.length : Int)) rfl rfl) rfl (svg (g := 11) (d := 22) (want := false) (b := !r2) rfl rfl rfl (notF hb2) (opT_cmp (k := .i64) (m := (p0a.2.2.length : Int)) (n := (p0a.2.1.length : Int)) (c := (p0a.2.2.length : Int) != (p0a.2.1.length : Int)) rfl rfl rfl rfl rfl) rfl (sv (opT_pick (b := !r2) (v := .bool ((p0a.2.2.length : Int) != (p0a.2.1.length : Int))) rfl rfl (ifF (notF hb2))) rfl rfl (enR (L' := [(1, .pointer (some ⟨g1, 0, none⟩)), (3, .int .i64 (p0a.2.1.length : Int)), (28, .bool ((p0a.2.2.length : Int) != (p0a.2.1.length : Int)))]) rfl ?_)))))
  clear A12 S12 a12 w12;intro a13 w13 A13 S13
  refine nrm ?_
  rcases two ((p0a.2.2.length : Int) != (p0a.2.1.length : Int)) with hb3 | hb3
  · replace hm := ifFe hb3 hm
    refine cnd_false (b := (p0a.2.2.length : Int) != (p0a.2.1.length : Int)) A13 rfl rfl hb3 ?_
    refine wp_skip (nrm (wp_seq (wp_seq (wp_region_lit (rn A13 S13 (sv (opT_field_addr (g := g1) (b := 0) tf27_2 rfl rfl) rfl rfl (sop (opT_load_blk (g := g1) (off := 2) (E := 27) (l := [.int .i64 p0a.1, va0, va1]) (d := [va1]) (u := va1) ti23 rfl rfl rfl rfl rfl rfl) (perm_front (i := 0) rfl) rfl rfl ?_)))))))
    rintro u a14 w14 hf A14 (S14 : St I w0 w14 [Ch.blk g1 [.int .i64 p0a.1, va0, va1] 27, F])
    obtain rfl := Eq.symm hf
    clear A13 S13 a13 w13
    refine rn A14 S14 (sv (opT_len_hd (v := va1) (n := p0a.2.2.length) (Hd.of_rd ra1) Try.underlying23 rfl rfl) rfl rfl (sv (opT_move (v := .int .i64 0) rfl rfl) rfl rfl (enR (L' := [(3, .int .i64 (p0a.2.1.length : Int)), (30, va1), (31, .int .i64 (p0a.2.2.length : Int)), (32, .int .i64 0)]) rfl ?_)))
    clear A14 S14 a14 w14;intro a15 w15 A15 S15
    refine nrm ?_
    obtain ⟨o5, hl3, hc3⟩ := bindL_some hm
    refine wp_cut (fun a w => ∃ s12 : Int, o5 = .brk s12 ∧ Agr 52 a [] ∧ St I w0 w [F]) ?_ ?_
    · refine wp_block (wp_loopM (R := Bool) (S := Int) (fun s11 a w => Agr 52 a [(3, .int .i64 (p0a.2.1.length : Int)), (30, va1), (31, .int .i64 (p0a.2.2.length : Int)), (32, .int .i64 s11)] ∧ St I w0 w [F]) hl3 ?_ ?_)
      · exact ⟨A15.pick' ⟨rfl, rfl, rfl, rfl, trivial⟩, St.sel S15 2 [1] rfl rfl⟩
      rintro s11 o6 hm hf3 a76 w76 ⟨A76, S76⟩
      unfold m_i_IsValidAutomaton_l0 at hm
      refine wp_seq (wp_region_lit (rn A76 S76 (sv (opT_cmp (k := .i64) (m := s11) (n := (p0a.2.2.length : Int)) (c := decide (s11 < (p0a.2.2.length : Int))) rfl rfl rfl rfl rfl) rfl rfl (enR (L' := [(3, .int .i64 (p0a.2.1.length : Int)), (30, va1), (31, .int .i64 (p0a.2.2.length : Int)), (32, .int .i64 s11), (33, .bool (decide (s11 < (p0a.2.2.length : Int))))]) rfl ?_))))
      clear A76 S76 a76 w76;intro a77 w77 A77 S77
      refine nrm (wp_seq ?_)
      rcases two (decide (s11 < (p0a.2.2.length : Int))) with hb20 | hb20
      · replace hm := ifFe hb20 hm
        refine cnd_false (b := decide (s11 < (p0a.2.2.length : Int))) A77 rfl rfl hb20 ?_
        exact wp_exit (thenX (thenX (ex_in (nrm (⟨_, loopBrk hm hf3, ⟨A77.pick' trivial, St.sel S77 1 [0] rfl rfl⟩⟩)))))
      replace hm := ifTe hb20 hm
      refine cnd_true (b := decide (s11 < (p0a.2.2.length : Int))) A77 rfl rfl hb20 ?_
      refine wp_skip (nrm (wp_seq (wp_block (wp_seq (wp_region_lit ?_)))))
      obtain ⟨x9, e17, hm⟩ := bind_some hm
      refine rn A77 S77 (sv (opT_index_hd (xs := p0a.2.2) (i := s11) (n := 1) (Hd.of_rd ra1) Try.underlying23 ti34 rfl rfl rfl (getI_in e17)) rfl rfl (so0 (opT_load_el (S := rSlice 3 rInt) (xs := p0a.2.2) (a := x9) (i := s11) (k := 1) (off := 0) (f := fun (x : List Int) => x) ra1 e17 Fld.self ti34 rfl rfl rfl rfl rfl) rfl rfl ?_))
      rintro v3 a78 w78 hf A78 S78
      have r11 := lds_sl hf
      clear hf
      clear A77 S77 a77 w77
      refine rn A78 S78 (sv (opT_assign (v := v3) rfl rfl) rfl rfl (enR (L' := [(3, .int .i64 (p0a.2.1.length : Int)), (5, v3), (30, va1), (31, .int .i64 (p0a.2.2.length : Int)), (32, .int .i64 s11)]) rfl ?_))
      clear A78 S78 a78 w78;intro a79 w79 A79 S79
      refine nrm (wp_seq (wp_seq (wp_region_lit (rn A79 S79 (sv (opT_move (v := v3) rfl rfl) rfl rfl (sv (opT_len_hd (v := v3) (n := x9.length) (Hd.of_rd r11) Try.underlying34 rfl rfl) rfl rfl (sv (opT_move (v := .int .i64 0) rfl rfl) rfl rfl (enR (L' := [(3, .int .i64 (p0a.2.1.length : Int)), (5, v3), (30, va1), (31, .int .i64 (p0a.2.2.length : Int)), (32, .int .i64 s11), (36, v3), (37, .int .i64 (x9.length : Int)), (38, .int .i64 0)]) rfl ?_))))))))
      clear A79 S79 a79 w79;intro a80 w80 A80 S80
      refine nrm ?_
      obtain ⟨o7, hl4, hc4⟩ := bindL_some hm
      refine wp_cut (fun a w => ∃ s16 : Int, o7 = .brk s16 ∧ Agr 52 a [(3, .int .i64 (p0a.2.1.length : Int)), (5, v3), (30, va1), (31, .int .i64 (p0a.2.2.length : Int)), (32, .int .i64 s11)] ∧ St I w0 w [F]) ?_ ?_
      · refine wp_block (wp_loopM (R := Bool) (S := Int) (fun s15 a w => Agr 52 a [(3, .int .i64 (p0a.2.1.length : Int)), (5, v3), (30, va1), (31, .int .i64 (p0a.2.2.length : Int)), (32, .int .i64 s11), (36, v3), (37, .int .i64 (x9.length : Int)), (38, .int .i64 s15)] ∧ St I w0 w [F]) hl4 ?_ ?_)
        · exact ⟨A80.pick' ⟨rfl, rfl, rfl, rfl, rfl, rfl, rfl, rfl, trivial⟩, St.sel S80 1 [0] rfl rfl⟩
        rintro s15 o8 hm hf4 a95 w95 ⟨A95, S95⟩
        unfold m_i_IsValidAutomaton_l1 at hm
        refine wp_seq (wp_region_lit (rn A95 S95 (sv (opT_cmp (k := .i64) (m := s15) (n := (x9.length : Int)) (c := decide (s15 < (x9.length : Int))) rfl rfl rfl rfl rfl) rfl rfl (enR (L' := [(3, .int .i64 (p0a.2.1.length : Int)), (5, v3), (30, va1), (31, .int .i64 (p0a.2.2.length : Int)), (32, .int .i64 s11), (36, v3), (37, .int .i64 (x9.length : Int)), (38, .int .i64 s15), (39, .bool (decide (s15 < (x9.length : Int))))]) rfl ?_))))
        clear A95 S95 a95 w95;intro a96 w96 A96 S96
        refine nrm (wp_seq ?_)
        rcases two (decide (s15 < (x9.length : Int))) with hb25 | hb25
        · replace hm := ifFe hb25 hm
          refine cnd_false (b := decide (s15 < (x9.length : Int))) A96 rfl rfl hb25 ?_
          exact wp_exit (thenX (thenX (ex_in (nrm (⟨_, loopBrk hm hf4, ⟨A96.pick' ⟨rfl, rfl, rfl, rfl, rfl, trivial⟩, St.sel S96 1 [0] rfl rfl⟩⟩)))))
        replace hm := ifTe hb25 hm
        refine cnd_true (b := decide (s15 < (x9.length : Int))) A96 rfl rfl hb25 ?_
        refine wp_skip (nrm (wp_seq (wp_block (wp_seq (wp_region_lit ?_)))))
        obtain ⟨x12, e22, hm⟩ := bind_some hm
        refine rn A96 S96 (sv (opT_index_hd (xs := x9) (i := s15) (n := 1) (Hd.of_rd r11) Try.underlying34 ti3 rfl rfl rfl (getI_in e22)) rfl rfl (so0 (opT_load_el (S := rInt) (xs := x9) (a := x12) (i := s15) (k := 1) (off := 0) (f := fun (x : Int) => x) r11 e22 Fld.self ti3 rfl rfl rfl rfl rfl) rfl rfl ?_))
        rintro u a97 w97 hf A97 S97
        obtain rfl := lds_one hf
        clear A96 S96 a96 w96
        refine rn A97 S97 (sv (opT_assign (v := .int .i64 x12) rfl rfl) rfl rfl (enR (L' := [(3, .int .i64 (p0a.2.1.length : Int)), (5, v3), (7, .int .i64 x12), (30, va1), (31, .int .i64 (p0a.2.2.length : Int)), (32, .int .i64 s11), (36, v3), (37, .int .i64 (x9.length : Int)), (38, .int .i64 s15)]) rfl ?_))
        clear A97 S97 a97 w97;intro a98 w98 A98 S98
        refine nrm (wp_seq (wp_region_lit (rn A98 S98 (sv (opT_move (v := .int .i64 x12) rfl rfl) rfl rfl (sv (opT_move (v := .int .i64 (p0a.2.1.length : Int)) rfl rfl) rfl rfl (sv (opT_sub (m := (p0a.2.1.length : Int)) (n := 1) rfl rfl rfl) rfl rfl ?_))))))
        obtain ⟨r14, e23, hm⟩ := bind_some hm
        refine so0 (opT_call (args := #[.int .i64 x12, .int .i64 (-1), .int .i64 (IntKind.i64.wrap ((p0a.2.1.length : Int) - 1))]) (first := #[]) (captured := #[]) en95 rfl rfl rfl (c_i_within x12 (-1) (IntKind.i64.wrap ((p0a.2.1.length : Int) - 1)) _ e23  )) rfl rfl ?_
        rintro u a99 w99 hf A99 S99
        obtain rfl := Eq.symm hf
        clear A98 S98 a98 w98
        refine rn A99 S99 (sv (opT_not (b := r14) rfl rfl) rfl rfl (enR (L' := [(3, .int .i64 (p0a.2.1.length : Int)), (5, v3), (30, va1), (31, .int .i64 (p0a.2.2.length : Int)), (32, .int .i64 s11), (36, v3), (37, .int .i64 (x9.length : Int)), (38, .int .i64 s15), (46, .bool (!r14))]) rfl ?_))
        clear A99 S99 a99 w99;intro a100 w100 A100 S100
        refine nrm ?_
        rcases two (r14) with hb26 | hb26
        · replace hm := ifFe hb26 hm
          refine cnd_true (b := !r14) A100 rfl rfl (notT hb26) ?_
          refine wp_seq (wp_region_lit (rn A100 S100 (sv (opT_assign (v := .bool false) rfl rfl) rfl rfl (enR (L' := [(2, .bool false)]) rfl ?_))))
          clear A100 S100 a100 w100;intro a101 w101 A101 S101
          refine nrm (wp_ret (blkR (thenR (thenR (blkR (thenR (thenR (blkR (thenR (thenR (blkR (thenR (thenR ?_)))))))))))))
          replace hm := loopRet hm hf4 hc4
          replace hm := loopRet hm hf3 hc3
          obtain rfl := Option.some.inj hm
          exact ret_1 A101 rfl (res_tmp A101 rfl) ⟨_, rfl, rfl, _, Hp.le.rfl, St.sel (S101) 1 [0] rfl rfl⟩
        replace hm := ifTe hb26 hm
        refine cnd_false (b := !r14) A100 rfl rfl (notF hb26) ?_
        refine wp_skip (nrmB (nrm (wp_region_lit (rn A100 S100 (sv (opT_add (m := s15) (n := 1) rfl rfl rfl) rfl rfl (sv (opT_move (v := .int .i64 (IntKind.i64.wrap (s15 + 1))) rfl rfl) rfl rfl (enR (L' := [(3, .int .i64 (p0a.2.1.length : Int)), (5, v3), (30, va1), (31, .int .i64 (p0a.2.2.length : Int)), (32, .int .i64 s11), (36, v3), (37, .int .i64 (x9.length : Int)), (38, .int .i64 (IntKind.i64.wrap (s15 + 1)))]) rfl ?_)))))))
        clear A100 S100 a100 w100;intro a102 w102 A102 S102
        exact nrm (⟨_, (Option.some.inj hm).symm, ⟨A102.pick' ⟨rfl, rfl, rfl, rfl, rfl, rfl, rfl, rfl, trivial⟩, St.sel S102 1 [0] rfl rfl⟩⟩)
      rintro a103 w103 ⟨s16, ho3, A103, S103⟩
      replace hm := loopOut ho3 hc4
      clear ho3 hc4 hl4
      refine nrm (wp_seq (wp_region_lit (rn A103 S103 (sv (opT_move (v := v3) rfl rfl) rfl rfl (sv (opT_len_hd (v := v3) (n := x9.length) (Hd.of_rd r11) Try.underlying34 rfl rfl) rfl rfl (sv (opT_cmp (k := .i64) (m := (x9.length : Int)) (n := 9) (c := (x9.length : Int) != 9) rfl rfl rfl rfl rfl) rfl rfl (enR (L' := [(3, .int .i64 (p0a.2.1.length : Int)), (30, va1), (31, .int .i64 (p0a.2.2.length : Int)), (32, .int .i64 s11), (50, .bool ((x9.length : Int) != 9))]) rfl ?_)))))))
      clear A103 S103 a103 w103;intro a104 w104 A104 S104
      refine nrm ?_
      rcases two ((x9.length : Int) != 9) with hb27 | hb27
      · replace hm := ifFe hb27 hm
        refine cnd_false (b := (x9.length : Int) != 9) A104 rfl rfl hb27 ?_
        refine wp_skip (nrmB (nrm (wp_region_lit (rn A104 S104 (sv (opT_add (m := s11) (n := 1) rfl rfl rfl) rfl rfl (sv (opT_move (v := .int .i64 (IntKind.i64.wrap (s11 + 1))) rfl rfl) rfl rfl (enR (L' := [(3, .int .i64 (p0a.2.1.length : Int)), (30, va1), (31, .int .i64 (p0a.2.2.length : Int)), (32, .int .i64 (IntKind.i64.wrap (s11 + 1)))]) rfl ?_)))))))
        clear A104 S104 a104 w104;intro a105 w105 A105 S105
        exact nrm (⟨_, (Option.some.inj hm).symm, ⟨A105.pick' ⟨rfl, rfl, rfl, rfl, trivial⟩, St.sel S105 1 [0] rfl rfl⟩⟩)
      replace hm := ifTe hb27 hm
      refine cnd_true (b := (x9.length : Int) != 9) A104 rfl rfl hb27 ?_
      refine wp_seq (wp_region_lit (rn A104 S104 (sv (opT_assign (v := .bool false) rfl rfl) rfl rfl (enR (L' := [(2, .bool false)]) rfl ?_))))
      clear A104 S104 a104 w104;intro a106 w106 A106 S106
      refine nrm (wp_ret (blkR (thenR (thenR (blkR (thenR (thenR ?_)))))))
      replace hm := loopRet hm hf3 hc3
      obtain rfl := Option.some.inj hm
      exact ret_1 A106 rfl (res_tmp A106 rfl) ⟨_, rfl, rfl, _, Hp.le.rfl, St.sel (S106) 1 [0] rfl rfl⟩
    rintro a107 w107 ⟨s12, ho4, A107, S107⟩
    replace hm := loopOut ho4 hc3
    clear ho4 hc3 hl3
    refine nrm (wp_seq (wp_region_lit (rn A107 S107 (sv (opT_assign (v := .bool true) rfl rfl) rfl rfl (enR (L' := [(2, .bool true)]) rfl ?_)))))
    clear A107 S107 a107 w107;intro a108 w108 A108 S108
    refine nrm (wp_ret ?_)
    obtain rfl := Option.some.inj hm
    exact ret_1 A108 rfl (res_tmp A108 rfl) ⟨_, rfl, rfl, _, Hp.le.rfl, St.sel (S108) 1 [0] rfl rfl⟩
  replace hm := ifTe hb3 hm
  refine cnd_true (b := (p0a.2.2.length : Int) != (p0a.2.1.length : Int)) A13 rfl rfl hb3 ?_
  refine wp_seq (wp_region_lit (rn A13 S13 (sv (opT_assign (v := .bool false) rfl rfl) rfl rfl (enR (L' := [(2, .bool false)]) rfl ?_))))
  clear A13 S13 a13 w13;intro a109 w109 A109 S109
  refine nrm (wp_ret (thenR ?_))
  obtain rfl := Option.some.inj hm
  exact ret_1 A109 rfl (res_tmp A109 rfl) ⟨_, rfl, rfl, _, Hp.le.rfl, St.sel (S109) 2 [1] rfl rfl⟩
theorem c_w_eqIntSS (p0a : List (List Int)) (p1b : List (List Int)) (r : Bool) (hm : m_w_eqIntSS p0a p1b = some r) {I : Hp} {w0 : World} (va0 : Value) (va1 : Value) (ra0 : (rSlice 34 (rSlice 3 rInt)).rd I [va0] p0a) (ra1 : (rSlice 34 (rSlice 3 rInt)).rd I [va1] p1b) : Con Try.prog 54 #[va0, va1] I w0 [] (fun v => v = .bool r) (fun v => []) := by
  refine con_of_wp (n := 27) [(0, va0), (1, va1)] Try.func54 rfl rfl (Nat.le_of_ble_eq_true rfl) (args_all ⟨rfl, rfl, trivial⟩) (fun F w a ha hs => ?_) (fun v => trivial)
  unfold m_w_eqIntSS at hm
  refine wp_seq (wp_region_lit (rn ha hs (sv (opT_assign (v := .bool false) rfl rfl) rfl rfl (enR (L' := [(0, va0), (1, va1)]) rfl ?_))))
  clear ha hs a w;intro a1 w1 A1 S1
  refine nrm (wp_seq (wp_seq (wp_region_lit (rn A1 S1 (sv (opT_move (v := va0) rfl rfl) rfl rfl (sv (opT_len_hd (v := va0) (n := p0a.length) (Hd.of_rd ra0) Try.underlying23 rfl rfl) rfl rfl (sv (opT_move (v := va1) rfl rfl) rfl rfl (sv (opT_len_hd (v := va1) (n := p1b.length) (Hd.of_rd ra1) Try.underlying23 rfl rfl) rfl rfl (sv (opT_cmp (k := .i64) (m := (p0a.length : Int)) (n := (p1b.length : Int)) (c := (p0a.length : Int) != (p1b.length : Int)) rfl rfl rfl rfl rfl) rfl rfl (enR (L' := [(0, va0), (1, va1), (10, .bool ((p0a.length : Int) != (p1b.length : Int)))]) rfl ?_))))))))))
  clear A1 S1 a1 w1;intro a2 w2 A2 S2
  refine nrm ?_
  rcases two ((p0a.length : Int) != (p1b.length : Int)) with hb1 | hb1
  · replace hm := ifFe hb1 hm
    refine cnd_false (b := (p0a.length : Int) != (p1b.length : Int)) A2 rfl rfl hb1 ?_
    refine wp_skip (nrm (wp_seq (wp_seq (wp_region_lit (rn A2 S2 (sv (opT_assign (v := .int .i64 0) rfl rfl) rfl rfl (enR (L' := [(0, va0), (1, va1), (5, .int .i64 0)]) rfl ?_)))))))
    clear A2 S2 a2 w2;intro a3 w3 A3 S3
    refine nrm ?_
    obtain ⟨o1, hl1, hc1⟩ := bindL_some hm
    refine wp_cut (fun a w => ∃ s4 : Int, o1 = .brk s4 ∧ Agr 27 a [] ∧ St I w0 w [F]) ?_ ?_
    · refine wp_block (wp_loopM (R := Bool) (S := Int) (fun s3 a w => Agr 27 a [(0, va0), (1, va1), (5, .int .i64 s3)] ∧ St I w0 w [F]) hl1 ?_ ?_)
      · exact ⟨A3.pick' ⟨rfl, rfl, rfl, trivial⟩, St.sel S3 1 [0] rfl rfl⟩
      rintro s3 o2 hm hf1 a10 w10 ⟨A10, S10⟩
      unfold m_w_eqIntSS_l0 at hm
      refine wp_seq (wp_seq (wp_region_lit (rn A10 S10 (sv (opT_move (v := .int .i64 s3) rfl rfl) rfl rfl (sv (opT_move (v := va0) rfl rfl) rfl rfl (sv (opT_len_hd (v := va0) (n := p0a.length) (Hd.of_rd ra0) Try.underlying23 rfl rfl) rfl rfl (sv (opT_cmp (k := .i64) (m := s3) (n := (p0a.length : Int)) (c := decide (s3 < (p0a.length : Int))) rfl rfl rfl rfl rfl) rfl rfl (enR (L' := [(0, va0), (1, va1), (5, .int .i64 s3), (14, .bool (decide (s3 < (p0a.length : Int))))]) rfl ?_))))))))
      clear A10 S10 a10 w10;intro a11 w11 A11 S11
      refine nrm ?_
      rcases two (decide (s3 < (p0a.length : Int))) with hb6 | hb6
      · replace hm := ifFe hb6 hm
        refine cnd_false (b := decide (s3 < (p0a.length : Int))) A11 rfl rfl hb6 ?_
        exact wp_exit (thenX (thenX (ex_in (nrm (⟨_, loopBrk hm hf1, ⟨A11.pick' trivial, St.sel S11 1 [0] rfl rfl⟩⟩)))))
      replace hm := ifTe hb6 hm
      refine cnd_true (b := decide (s3 < (p0a.length : Int))) A11 rfl rfl hb6 ?_
      refine wp_skip (nrm (wp_seq (wp_block (wp_seq ?_))))
      obtain ⟨x5, e7, hm⟩ := bind_some hm
      obtain ⟨x6, e8, hm⟩ := bind_some hm
      obtain ⟨r9, e9, hm⟩ := bind_some hm
      refine wp_draw (L := [(0, va0), (1, va1), (5, .int .i64 s3), (14, .bool (decide (s3 < (p0a.length : Int))))]) (C := [F]) { ops := [⟨[], [], [], [0], fun | [xo0] => xo0 = va0 | _ => True, [(0, none)]⟩, ⟨[], [], [], [1], fun | [xo1] => xo1 = .int .i64 s3 | _ => True, [(5, none)]⟩, ⟨[], [], [], [2], fun | [xo2] => xo2 = pt va0 (s3.toNat * 1) | _ => True, [(17, some 0), (18, some 1)]⟩, ⟨[], [], [], [3], fun | [xo3] => (rSlice 3 rInt).rd I [xo3] x5 | _ => True, [(19, some 2)]⟩, ⟨[], [], [], [4], fun | [xo4] => xo4 = va1 | _ => True, [(1, none)]⟩, ⟨[], [], [], [5], fun | [xo5] => xo5 = .int .i64 s3 | _ => True, [(5, none)]⟩, ⟨[], [], [], [6], fun | [xo6] => xo6 = pt va1 (s3.toNat * 1) | _ => True, [(21, some 4), (22, some 5)]⟩, ⟨[], [], [], [7], fun | [xo7] => (rSlice 3 rInt).rd I [xo7] x6 | _ => True, [(23, some 6)]⟩, ⟨[], [], [], [8], fun | [xo8] => xo8 = .bool r9 | _ => True, [(20, some 3), (24, some 7)]⟩, ⟨[], [], [], [9], fun | [xo9] => xo9 = .bool (!r9) | _ => True, [(25, some 8)]⟩], res := [], base := [], pre := [[], [], [0, 1], [0, 1, 2], [], [], [4, 5], [4, 5, 6], [0, 1, 2, 3, 4, 5, 6, 7], [0, 1, 2, 3, 4, 5, 6, 7, 8]], fin := [(0, none), (1, none), (5, none), (26, some 9)], left := [] } (by kernel_rfl) A11 S11 (perm_sel [0] (m := 1) rfl rfl) (by kernel_rfl) (by kernel_rfl) ?_ ?_
      · exact ⟨Plan.goal_run fun vs hf => ⟨wants_none rfl, OpT.conv (OpT.evs (ev' := evL [(0, va0)]) (opT_move (v := va0) rfl rfl) rfl [.tmp 0] rfl ⟨rfl, trivial⟩) rfl (fun _ h => Eq.trans h rfl) (fun _ => rfl)⟩, Plan.goal_run fun vs hf => ⟨wants_none rfl, OpT.conv (OpT.evs (ev' := evL [(5, .int .i64 s3)]) (opT_move (v := .int .i64 s3) rfl rfl) rfl [.tmp 5] rfl ⟨rfl, trivial⟩) rfl (fun _ h => Eq.trans h rfl) (fun _ => rfl)⟩, Plan.goal_run fun vs hf => ⟨wants_none rfl, OpT.conv (OpT.evs (ev' := evL [(17, va0), (18, .int .i64 s3)]) (opT_index_hd (xs := p0a) (i := s3) (n := 1) (Hd.of_rd ra0) Try.underlying23 ti34 rfl rfl rfl (getI_in e7)) rfl [.tmp 17, .tmp 18] rfl ⟨(hf 0 (mb rfl)), (hf 1 (mb rfl)), trivial⟩) rfl (fun _ h => Eq.trans h rfl) (fun _ => rfl)⟩, Plan.goal_run fun vs hf => ⟨wants_none rfl, OpT.conv (OpT.evs (ev' := evL [(19, pt va0 (s3.toNat * 1))]) (opT_load_el (S := rSlice 3 rInt) (xs := p0a) (a := x5) (i := s3) (k := 1) (off := 0) (f := fun (x : List Int) => x) ra0 e7 Fld.self ti34 rfl rfl rfl rfl rfl) rfl [.tmp 19] rfl ⟨(hf 2 (mb rfl)), trivial⟩) rfl (fun _ h => lds_sl h) (fun _ => rfl)⟩, Plan.goal_run fun vs hf => ⟨wants_none rfl, OpT.conv (OpT.evs (ev' := evL [(1, va1)]) (opT_move (v := va1) rfl rfl) rfl [.tmp 1] rfl ⟨rfl, trivial⟩) rfl (fun _ h => Eq.trans h rfl) (fun _ => rfl)⟩, Plan.goal_run fun vs hf => ⟨wants_none rfl, OpT.conv (OpT.evs (ev' := evL [(5, .int .i64 s3)]) (opT_move (v := .int .i64 s3) rfl rfl) rfl [.tmp 5] rfl ⟨rfl, trivial⟩) rfl (fun _ h => Eq.trans h rfl) (fun _ => rfl)⟩, Plan.goal_run fun vs hf => ⟨wants_none rfl, OpT.conv (OpT.evs (ev' := evL [(21, va1), (22, .int .i64 s3)]) (opT_index_hd (xs := p1b) (i := s3) (n := 1) (Hd.of_rd ra1) Try.underlying23 ti34 rfl rfl rfl (getI_in e8)) rfl [.tmp 21, .tmp 22] rfl ⟨(hf 4 (mb rfl)), (hf 5 (mb rfl)), trivial⟩) rfl (fun _ h => Eq.trans h rfl) (fun _ => rfl)⟩, Plan.goal_run fun vs hf => ⟨wants_none rfl, OpT.conv (OpT.evs (ev' := evL [(23, pt va1 (s3.toNat * 1))]) (opT_load_el (S := rSlice 3 rInt) (xs := p1b) (a := x6) (i := s3) (k := 1) (off := 0) (f := fun (x : List Int) => x) ra1 e8 Fld.self ti34 rfl rfl rfl rfl rfl) rfl [.tmp 23] rfl ⟨(hf 6 (mb rfl)), trivial⟩) rfl (fun _ h => lds_sl h) (fun _ => rfl)⟩, Plan.goal_run fun vs hf => ⟨wants_none rfl, OpT.conv (OpT.evs (ev' := evL [(20, (vs 3)), (24, (vs 7))]) (opT_call (args := #[(vs 3), (vs 7)]) (first := #[]) (captured := #[]) en69 rfl rfl rfl (c_w_eqIntS x5 x6 _ e9 (vs 3) (vs 7) (show (rSlice 3 rInt).rd I [(vs 3)] x5 from (hf 3 (mb rfl))) (show (rSlice 3 rInt).rd I [(vs 7)] x6 from (hf 7 (mb rfl))))) rfl [.func 69, .tmp 20, .tmp 24] rfl ⟨rfl, rfl, rfl, trivial⟩) rfl (fun _ h => h) (fun _ => rfl)⟩, Plan.goal_run fun vs hf => ⟨wants_none rfl, OpT.conv (OpT.evs (ev' := evL [(25, .bool r9)]) (opT_not (b := r9) rfl rfl) rfl [.tmp 25] rfl ⟨(hf 8 (mb rfl)), trivial⟩) rfl (fun _ h => Eq.trans h rfl) (fun _ => rfl)⟩, trivial⟩
      intro vs a12 w12 hf A12 S12
      clear A11 S11
      replace A12 := A12.pick' (L' := [(0, va0), (1, va1), (5, .int .i64 s3), (26, .bool (!r9))]) ⟨rfl, rfl, rfl, (congrArg some (show _ = _ from (hf 9 (Nat.le_of_ble_eq_true rfl)))), trivial⟩
      replace S12 : St I w0 w12 [F] := S12
      clear hf vs
      refine nrm ?_
      rcases two (r9) with hb7 | hb7
      · replace hm := ifFe hb7 hm
        refine cnd_true (b := !r9) A12 rfl rfl (notT hb7) ?_
        refine wp_seq (wp_region_lit (rn A12 S12 (sv (opT_assign (v := .bool false) rfl rfl) rfl rfl (enR (L' := [(4, .bool false)]) rfl ?_))))
        clear A12 S12 a12 w12;intro a13 w13 A13 S13
        refine nrm (wp_ret (blkR (thenR (thenR (blkR (thenR (thenR ?_)))))))
        replace hm := loopRet hm hf1 hc1
        obtain rfl := Option.some.inj hm
        exact ret_1 A13 rfl (res_tmp A13 rfl) ⟨_, rfl, rfl, _, Hp.le.rfl, St.sel (S13) 1 [0] rfl rfl⟩
      replace hm := ifTe hb7 hm
      refine cnd_false (b := !r9) A12 rfl rfl (notF hb7) ?_
      refine wp_skip (nrmB (nrm (wp_region_lit (rn A12 S12 (sv (opT_move (v := .int .i64 s3) rfl rfl) rfl rfl (sv (opT_add (m := s3) (n := 1) rfl rfl rfl) rfl rfl (sv (opT_assign (v := .int .i64 (IntKind.i64.wrap (s3 + 1))) rfl rfl) rfl rfl (enR (L' := [(0, va0), (1, va1), (5, .int .i64 (IntKind.i64.wrap (s3 + 1)))]) rfl ?_))))))))
      clear A12 S12 a12 w12;intro a14 w14 A14 S14
      exact nrm (⟨_, (Option.some.inj hm).symm, ⟨A14.pick' ⟨rfl, rfl, rfl, trivial⟩, St.sel S14 1 [0] rfl rfl⟩⟩)
    rintro a15 w15 ⟨s4, ho1, A15, S15⟩
    replace hm := loopOut ho1 hc1
    clear ho1 hc1 hl1
    refine nrm (wp_seq (wp_region_lit (rn A15 S15 (sv (opT_assign (v := .bool true) rfl rfl) rfl rfl (enR (L' := [(4, .bool true)]) rfl ?_)))))
    clear A15 S15 a15 w15;intro a16 w16 A16 S16
    refine nrm (wp_ret ?_)
    obtain rfl := Option.some.inj hm
    exact ret_1 A16 rfl (res_tmp A16 rfl) ⟨_, rfl, rfl, _, Hp.le.rfl, St.sel (S16) 1 [0] rfl rfl⟩
  replace hm := ifTe hb1 hm
  refine cnd_true (b := (p0a.length : Int) != (p1b.length : Int)) A2 rfl rfl hb1 ?_
  refine wp_seq (wp_region_lit (rn A2 S2 (sv (opT_assign (v := .bool false) rfl rfl) rfl rfl (enR (L' := [(4, .bool false)]) rfl ?_))))
  clear A2 S2 a2 w2;intro a17 w17 A17 S17
  refine nrm (wp_ret (thenR ?_))
  obtain rfl := Option.some.inj hm
  exact ret_1 A17 rfl (res_tmp A17 rfl) ⟨_, rfl, rfl, _, Hp.le.rfl, St.sel (S17) 1 [0] rfl rfl⟩
theorem c_w_szIntSS (p0a : List (List Int)) (p1left : Int) (r : Int) (hm : m_w_szIntSS p0a p1left = some r) {I : Hp} {w0 : World} (va0 : Value) (ra0 : (rSlice 34 (rSlice 3 rInt)).rd I [va0] p0a) : Con Try.prog 45 #[va0, .int .i64 p1left] I w0 [] (fun v => v = .int .i64 r) (fun v => []) := by
  refine con_of_wp (n := 27) [(0, va0), (1, .int .i64 p1left)] Try.func45 rfl rfl (Nat.le_of_ble_eq_true rfl) (args_all ⟨rfl, rfl, trivial⟩) (fun F w a ha hs => ?_) (fun v => trivial)
  unfold m_w_szIntSS at hm
  refine wp_seq (wp_region_lit (rn ha hs (sv (opT_assign (v := .int .i64 0) rfl rfl) rfl rfl (enR (L' := [(0, va0), (1, .int .i64 p1left)]) rfl ?_))))
  clear ha hs a w;intro a1 w1 A1 S1
  refine nrm (wp_seq (wp_region_lit (rn A1 S1 (sv (opT_move (v := .int .i64 p1left) rfl rfl) rfl rfl (sv (opT_move (v := va0) rfl rfl) rfl rfl (sv (opT_len_hd (v := va0) (n := p0a.length) (Hd.of_rd ra0) Try.underlying23 rfl rfl) rfl rfl (sv (opT_sub (m := p1left) (n := (p0a.length : Int)) rfl rfl rfl) rfl rfl (sv (opT_assign (v := .int .i64 (IntKind.i64.wrap (p1left - (p0a.length : Int)))) rfl rfl) rfl rfl (enR (L' := [(0, va0), (1, .int .i64 (IntKind.i64.wrap (p1left - (p0a.length : Int))))]) rfl ?_)))))))))
  clear A1 S1 a1 w1;intro a2 w2 A2 S2
  refine nrm (wp_seq (wp_seq (wp_region_lit (rn A2 S2 (sv (opT_move (v := .int .i64 (IntKind.i64.wrap (p1left - (p0a.length : Int)))) rfl rfl) rfl rfl (sv (opT_cmp (k := .i64) (m := IntKind.i64.wrap (p1left - (p0a.length : Int))) (n := 0) (c := decide (IntKind.i64.wrap (p1left - (p0a.length : Int)) < 0)) rfl rfl rfl rfl rfl) rfl rfl (enR (L' := [(0, va0), (1, .int .i64 (IntKind.i64.wrap (p1left - (p0a.length : Int)))), (11, .bool (decide (IntKind.i64.wrap (p1left - (p0a.length : Int)) < 0)))]) rfl ?_)))))))
  clear A2 S2 a2 w2;intro a3 w3 A3 S3
  refine nrm ?_
  rcases two (decide (IntKind.i64.wrap (p1left - (p0a.length : Int)) < 0)) with hb1 | hb1
  · replace hm := ifFe hb1 hm
    refine cnd_false (b := decide (IntKind.i64.wrap (p1left - (p0a.length : Int)) < 0)) A3 rfl rfl hb1 ?_
    refine wp_skip (nrm (wp_seq (wp_seq (wp_region_lit (rn A3 S3 (sv (opT_assign (v := .int .i64 0) rfl rfl) rfl rfl (enR (L' := [(0, va0), (1, .int .i64 (IntKind.i64.wrap (p1left - (p0a.length : Int)))), (5, .int .i64 0)]) rfl ?_)))))))
    clear A3 S3 a3 w3;intro a4 w4 A4 S4
    refine nrm ?_
    obtain ⟨o1, hl1, hc1⟩ := bindL_some hm
    refine wp_cut (fun a w => ∃ s4 : Int × Int, o1 = .brk s4 ∧ Agr 27 a [(1, .int .i64 s4.1)] ∧ St I w0 w [F]) ?_ ?_
    · refine wp_block (wp_loopM (R := Int) (S := Int × Int) (fun s3 a w => Agr 27 a [(0, va0), (1, .int .i64 s3.1), (5, .int .i64 s3.2)] ∧ St I w0 w [F]) hl1 ?_ ?_)
      · exact ⟨A4.pick' ⟨rfl, rfl, rfl, trivial⟩, St.sel S4 1 [0] rfl rfl⟩
      rintro s3 o2 hm hf1 a19 w19 ⟨A19, S19⟩
      unfold m_w_szIntSS_l0 at hm
      refine wp_seq (wp_seq (wp_region_lit (rn A19 S19 (sv (opT_move (v := .int .i64 s3.2) rfl rfl) rfl rfl (sv (opT_move (v := va0) rfl rfl) rfl rfl (sv (opT_len_hd (v := va0) (n := p0a.length) (Hd.of_rd ra0) Try.underlying23 rfl rfl) rfl rfl (sv (opT_cmp (k := .i64) (m := s3.2) (n := (p0a.length : Int)) (c := decide (s3.2 < (p0a.length : Int))) rfl rfl rfl rfl rfl) rfl rfl (enR (L' := [(0, va0), (1, .int .i64 s3.1), (5, .int .i64 s3.2), (15, .bool (decide (s3.2 < (p0a.length : Int))))]) rfl ?_))))))))
      clear A19 S19 a19 w19;intro a20 w20 A20 S20
      refine nrm ?_
      rcases two (decide (s3.2 < (p0a.length : Int))) with hb6 | hb6
      · replace hm := ifFe hb6 hm
        refine cnd_false (b := decide (s3.2 < (p0a.length : Int))) A20 rfl rfl hb6 ?_
        exact wp_exit (thenX (thenX (ex_in (nrm (⟨_, loopBrk hm hf1, ⟨A20.pick' ⟨rfl, trivial⟩, St.sel S20 1 [0] rfl rfl⟩⟩)))))
      replace hm := ifTe hb6 hm
      refine cnd_true (b := decide (s3.2 < (p0a.length : Int))) A20 rfl rfl hb6 ?_
      refine wp_skip (nrm (wp_seq (wp_block (wp_seq (wp_region_lit (rn A20 S20 (sv (opT_move (v := va0) rfl rfl) rfl rfl (sv (opT_move (v := .int .i64 s3.2) rfl rfl) rfl rfl ?_))))))))
      obtain ⟨x3, e5, hm⟩ := bind_some hm
      refine sv (opT_index_hd (xs := p0a) (i := s3.2) (n := 1) (Hd.of_rd ra0) Try.underlying23 ti34 rfl rfl rfl (getI_in e5)) rfl rfl (so0 (opT_load_el (S := rSlice 3 rInt) (xs := p0a) (a := x3) (i := s3.2) (k := 1) (off := 0) (f := fun (x : List Int) => x) ra0 e5 Fld.self ti34 rfl rfl rfl rfl rfl) rfl rfl ?_)
      rintro v3 a21 w21 hf A21 S21
      have r5 := lds_sl hf
      clear hf
      clear A20 S20 a20 w20
      refine rn A21 S21 (sv (opT_move (v := .int .i64 s3.1) rfl rfl) rfl rfl ?_)
      obtain ⟨r6, e6, hm⟩ := bind_some hm
      refine so0 (opT_call (args := #[v3, .int .i64 s3.1]) (first := #[]) (captured := #[]) en63 rfl rfl rfl (c_w_szIntS x3 s3.1 _ e6 v3 r5)) rfl rfl ?_
      rintro u a22 w22 hf A22 S22
      obtain rfl := Eq.symm hf
      clear A21 S21 a21 w21
      refine rn A22 S22 (sv (opT_assign (v := .int .i64 r6) rfl rfl) rfl rfl (enR (L' := [(0, va0), (1, .int .i64 r6), (5, .int .i64 s3.2)]) rfl ?_))
      clear A22 S22 a22 w22;intro a23 w23 A23 S23
      refine nrm (wp_seq (wp_region_lit (rn A23 S23 (sv (opT_move (v := .int .i64 r6) rfl rfl) rfl rfl (sv (opT_cmp (k := .i64) (m := r6) (n := 0) (c := decide (r6 < 0)) rfl rfl rfl rfl rfl) rfl rfl (enR (L' := [(0, va0), (1, .int .i64 r6), (5, .int .i64 s3.2), (25, .bool (decide (r6 < 0)))]) rfl ?_))))))
      clear A23 S23 a23 w23;intro a24 w24 A24 S24
      refine nrm ?_
      rcases two (decide (r6 < 0)) with hb7 | hb7
      · replace hm := ifFe hb7 hm
        refine cnd_false (b := decide (r6 < 0)) A24 rfl rfl hb7 ?_
        refine wp_skip (nrmB (nrm (wp_region_lit (rn A24 S24 (sv (opT_move (v := .int .i64 s3.2) rfl rfl) rfl rfl (sv (opT_add (m := s3.2) (n := 1) rfl rfl rfl) rfl rfl (sv (opT_assign (v := .int .i64 (IntKind.i64.wrap (s3.2 + 1))) rfl rfl) rfl rfl (enR (L' := [(0, va0), (1, .int .i64 r6), (5, .int .i64 (IntKind.i64.wrap (s3.2 + 1)))]) rfl ?_))))))))
        clear A24 S24 a24 w24;intro a25 w25 A25 S25
        exact nrm (⟨_, (Option.some.inj hm).symm, ⟨A25.pick' ⟨rfl, rfl, rfl, trivial⟩, St.sel S25 1 [0] rfl rfl⟩⟩)
      replace hm := ifTe hb7 hm
      refine cnd_true (b := decide (r6 < 0)) A24 rfl rfl hb7 ?_
      refine wp_seq (wp_region_lit (rn A24 S24 (sv (opT_assign (v := .int .i64 (-1)) rfl rfl) rfl rfl (enR (L' := [(4, .int .i64 (-1))]) rfl ?_))))
      clear A24 S24 a24 w24;intro a26 w26 A26 S26
      refine nrm (wp_ret (blkR (thenR (thenR (blkR (thenR (thenR ?_)))))))
      replace hm := loopRet hm hf1 hc1
      obtain rfl := Option.some.inj hm
      exact ret_1 A26 rfl (res_tmp A26 rfl) ⟨_, rfl, rfl, _, Hp.le.rfl, St.sel (S26) 1 [0] rfl rfl⟩
    rintro a27 w27 ⟨s4, ho1, A27, S27⟩
    replace hm := loopOut ho1 hc1
    clear ho1 hc1 hl1
    refine nrm (wp_seq (wp_region_lit (rn A27 S27 (sv (opT_move (v := .int .i64 s4.1) rfl rfl) rfl rfl (sv (opT_assign (v := .int .i64 s4.1) rfl rfl) rfl rfl (enR (L' := [(4, .int .i64 s4.1)]) rfl ?_))))))
    clear A27 S27 a27 w27;intro a28 w28 A28 S28
    refine nrm (wp_ret ?_)
    obtain rfl := Option.some.inj hm
    exact ret_1 A28 rfl (res_tmp A28 rfl) ⟨_, rfl, rfl, _, Hp.le.rfl, St.sel (S28) 1 [0] rfl rfl⟩
  replace hm := ifTe hb1 hm
  refine cnd_true (b := decide (IntKind.i64.wrap (p1left - (p0a.length : Int)) < 0)) A3 rfl rfl hb1 ?_
  refine wp_seq (wp_region_lit (rn A3 S3 (sv (opT_assign (v := .int .i64 (-1)) rfl rfl) rfl rfl (enR (L' := [(4, .int .i64 (-1))]) rfl ?_))))
  clear A3 S3 a3 w3;intro a29 w29 A29 S29
  refine nrm (wp_ret (thenR ?_))
  obtain rfl := Option.some.inj hm
  exact ret_1 A29 rfl (res_tmp A29 rfl) ⟨_, rfl, rfl, _, Hp.le.rfl, St.sel (S29) 1 [0] rfl rfl⟩
theorem c_w_markIntSS (p0a : List (List Int)) (p1k : Int) (r : Int × (List (List Int))) (hm : m_w_markIntSS p0a p1k = some r) {I : Hp} {w0 : World} (va0 : Value) : Con Try.prog 56 #[va0, .int .i64 p1k] I w0 [Ch.own (rSlice 34 (rSlice 3 rInt)) [va0] p0a] (fun v => v = .int .i64 r.1) (fun v => [Ch.own (rSlice 34 (rSlice 3 rInt)) [va0] r.2]) := by
  refine con_of_wp (n := 19) [(0, va0), (1, .int .i64 p1k)] Try.func56 rfl rfl (Nat.le_of_ble_eq_true rfl) (args_all ⟨rfl, rfl, trivial⟩) (fun F w a ha hs => ?_) (fun v => ⟨dp_own (dp_slice (dp_slice dp_int)), trivial⟩)
  unfold m_w_markIntSS at hm
  refine wp_seq (wp_region_lit (rn ha hs (sv (opT_assign (v := .int .i64 0) rfl rfl) rfl rfl (enR (L' := [(0, va0), (1, .int .i64 p1k)]) rfl ?_))))
  clear ha hs a w;intro a1 w1 A1 S1
  refine nrm (wp_seq (wp_seq (wp_region_lit (rn A1 S1 (sv (opT_assign (v := .int .i64 0) rfl rfl) rfl rfl (enR (L' := [(0, va0), (1, .int .i64 p1k), (5, .int .i64 0)]) rfl ?_))))))
  clear A1 S1 a1 w1;intro a2 w2 A2 S2
  refine nrm ?_
  obtain ⟨o1, hl1, hc1⟩ := bindL_some hm
  refine wp_cut (fun a w => ∃ s4 : (List (List Int)) × Int × Int, o1 = .brk s4 ∧ Agr 19 a [(1, .int .i64 s4.2.1)] ∧ St I w0 w [Ch.own (rSlice 34 (rSlice 3 rInt)) [va0] s4.1, F]) ?_ ?_
  · refine wp_block (wp_loopM (R := Int × (List (List Int))) (S := (List (List Int)) × Int × Int) (fun s3 a w => Agr 19 a [(0, va0), (1, .int .i64 s3.2.1), (5, .int .i64 s3.2.2)] ∧ St I w0 w [Ch.own (rSlice 34 (rSlice 3 rInt)) [va0] s3.1, F]) hl1 ?_ ?_)
    · exact ⟨A2.pick' ⟨rfl, rfl, rfl, trivial⟩, St.sel S2 2 [0, 1] rfl rfl⟩
    rintro s3 o2 hm hf1 a13 w13 ⟨A13, S13⟩
    unfold m_w_markIntSS_l0 at hm
    refine wp_seq (wp_seq (wp_region_lit (rn A13 S13 (sv (opT_move (v := .int .i64 s3.2.2) rfl rfl) rfl rfl (sv (opT_move (v := va0) rfl rfl) rfl rfl (sv (opT_len_hd (v := va0) (n := s3.1.length) (St.hd S13 0 rfl).1 Try.underlying23 rfl rfl) rfl rfl (sv (opT_cmp (k := .i64) (m := s3.2.2) (n := (s3.1.length : Int)) (c := decide (s3.2.2 < (s3.1.length : Int))) rfl rfl rfl rfl rfl) rfl rfl (enR (L' := [(0, va0), (1, .int .i64 s3.2.1), (5, .int .i64 s3.2.2), (9, .bool (decide (s3.2.2 < (s3.1.length : Int))))]) rfl ?_))))))))
    clear A13 S13 a13 w13;intro a14 w14 A14 S14
    refine nrm ?_
    rcases two (decide (s3.2.2 < (s3.1.length : Int))) with hb3 | hb3
    · replace hm := ifFe hb3 hm
      refine cnd_false (b := decide (s3.2.2 < (s3.1.length : Int))) A14 rfl rfl hb3 ?_
      exact wp_exit (thenX (thenX (ex_in (nrm (⟨_, loopBrk hm hf1, ⟨A14.pick' ⟨rfl, trivial⟩, St.sel S14 2 [0, 1] rfl rfl⟩⟩)))))
    replace hm := ifTe hb3 hm
    refine cnd_true (b := decide (s3.2.2 < (s3.1.length : Int))) A14 rfl rfl hb3 ?_
    refine wp_skip (nrm (wp_seq (wp_block (wp_region_lit (rn A14 S14 (sv (opT_move (v := va0) rfl rfl) rfl rfl (sv (opT_move (v := .int .i64 s3.2.2) rfl rfl) rfl rfl ?_)))))))
    obtain ⟨x3, e5, hm⟩ := bind_some hm
    refine sv (opT_index_hd (xs := s3.1) (i := s3.2.2) (n := 1) (St.hd S14 0 rfl).1 Try.underlying23 ti34 rfl rfl rfl (getI_in e5)) rfl rfl (sop (opT_borrow (E := 34) (R := rSlice 3 rInt) (xs := s3.1) (y := x3) (i := s3.2.2) (k := 1) e5 ti34 rfl rfl rfl rfl) (perm_front (i := 0) rfl) rfl rfl ?_)
    rintro v6 a15 w15 - A15 (S15 : St I w0 w15 [Ch.own (rSlice 3 rInt) [v6] x3, Ch.hole 34 (rSlice 3 rInt) va0 [v6] s3.1 s3.2.2.toNat, F])
    clear A14 S14 a14 w14
    refine rn A15 S15 (sv (opT_move (v := .int .i64 s3.2.1) rfl rfl) rfl rfl ?_)
    obtain ⟨r6, e6, hm⟩ := bind_some hm
    refine sop (opT_call (args := #[v6, .int .i64 s3.2.1]) (first := #[]) (captured := #[]) en102 rfl rfl rfl (c_w_markIntS x3 s3.2.1 _ e6 v6)) (perm_front (i := 0) rfl) rfl rfl ?_
    rintro u a16 w16 hf A16 (S16 : St I w0 w16 [Ch.own (rSlice 3 rInt) [v6] r6.2, Ch.hole 34 (rSlice 3 rInt) va0 [v6] s3.1 s3.2.2.toNat, F])
    obtain rfl := Eq.symm hf
    clear A15 S15 a15 w15
    refine rn A16 S16 (sv (opT_assign (v := .int .i64 r6.1) rfl rfl) rfl rfl (enR (L' := [(0, va0), (1, .int .i64 r6.1), (5, .int .i64 s3.2.2)]) rfl ?_))
    clear A16 S16 a16 w16;intro a17 w17 A17 S17
    replace S17 : St I w0 w17 [Ch.own (rSlice 3 rInt) [v6] r6.2, Ch.hole 34 (rSlice 3 rInt) va0 [v6] s3.1 s3.2.2.toNat, F] := St.sel S17 3 [0, 1, 2] rfl rfl
    replace S17 : St I w0 w17 [Ch.own (rSlice 34 (rSlice 3 rInt)) [va0] (s3.1.set s3.2.2.toNat r6.2), F] := St.putback S17
    refine nrmB (nrm (wp_region_lit (rn A17 S17 (sv (opT_move (v := .int .i64 s3.2.2) rfl rfl) rfl rfl (sv (opT_add (m := s3.2.2) (n := 1) rfl rfl rfl) rfl rfl (sv (opT_assign (v := .int .i64 (IntKind.i64.wrap (s3.2.2 + 1))) rfl rfl) rfl rfl (enR (L' := [(0, va0), (1, .int .i64 r6.1), (5, .int .i64 (IntKind.i64.wrap (s3.2.2 + 1)))]) rfl ?_)))))))
    clear A17 S17 a17 w17;intro a18 w18 A18 S18
    exact nrm (⟨_, (Option.some.inj hm).symm, ⟨A18.pick' ⟨rfl, rfl, rfl, trivial⟩, St.sel S18 2 [0, 1] rfl rfl⟩⟩)
  rintro a19 w19 ⟨s4, ho1, A19, S19⟩
  replace hm := loopOut ho1 hc1
  clear ho1 hc1 hl1
  refine nrm (wp_seq (wp_region_lit (rn A19 S19 (sv (opT_move (v := .int .i64 s4.2.1) rfl rfl) rfl rfl (sv (opT_assign (v := .int .i64 s4.2.1) rfl rfl) rfl rfl (enR (L' := [(4, .int .i64 s4.2.1)]) rfl ?_))))))
  clear A19 S19 a19 w19;intro a20 w20 A20 S20
  refine nrm (wp_ret ?_)
  obtain rfl := Option.some.inj hm
  exact ret_1 A20 rfl (res_tmp A20 rfl) ⟨_, rfl, rfl, _, Hp.le.rfl, St.sel (S20) 2 [0, 1] rfl rfl⟩
end Go.Proofs.Ytcihbmdppgpmjaa.D
