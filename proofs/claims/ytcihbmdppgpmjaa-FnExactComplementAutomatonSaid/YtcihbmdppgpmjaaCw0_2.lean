/- Printed by dec.py: models of functions and the walks that show them. -/
import Derived.Test.YtcihbmdppgpmjaaCm
set_option linter.unusedVariables false
set_option linter.unusedSimpArgs false
set_option linter.unnecessarySimpa false
set_option maxRecDepth 100000
set_option maxHeartbeats 8000000
namespace Go.Proofs.Ytcihbmdppgpmjaa.D
open Go.RowKit
theorem c_s_l11Live (p0a : Int × (List Bool) × (List (List Int))) (r : List Bool) (hm : m_s_l11Live p0a = some r) {I : Hp} {w0 : World} (va0 : Value) (va1 : Value) (ra0 : (rSlice 4 rBool).rd I [va0] p0a.2.1) (ra1 : (rSlice 34 (rSlice 3 rInt)).rd I [va1] p0a.2.2) : Con Try.prog 48 #[.agg #[.int .i64 p0a.1, va0, va1]] I w0 [] (fun v => True) (fun v => [Ch.own (rSlice 4 rBool) [v] r]) := by
  refine con_of_wp (n := 55) [(0, .agg #[.int .i64 p0a.1, va0, va1])] Try.func48 rfl rfl (Nat.le_of_ble_eq_true rfl) (args_all ⟨rfl, trivial⟩) (fun F w a ha hs => ?_) (fun v => ⟨dp_own (dp_slice dp_bool), trivial⟩)
  unfold m_s_l11Live at hm
  refine wp_seq (wp_region_lit (rn ha hs (sop (opT_box (u := .agg #[.int .i64 p0a.1, va0, va1]) (l := [.int .i64 p0a.1, va0, va1]) rfl rfl rfl) (List.Perm.refl _) rfl rfl ?_)))
  rintro _ a1 w1 ⟨g1, rfl⟩ A1 (S1 : St I w0 w1 [Ch.blk g1 [.int .i64 p0a.1, va0, va1] 27, F])
  clear ha hs a w
  refine rn A1 S1 (sv (opT_assign (v := .slice none 0 0) rfl rfl) rfl rfl (enR (L' := [(1, .pointer (some ⟨g1, 0, none⟩))]) rfl ?_))
  clear A1 S1 a1 w1;intro a2 w2 A2 S2
  refine nrm (wp_seq (wp_region_lit (rn A2 S2 (sop (opT_lit0 (E := 4) (R := rBool) Try.underlying22 ti4 rfl) (List.Perm.refl _) rfl rfl ?_))))
  rintro v1 a3 w3 - A3 (S3 : St I w0 w3 [Ch.own (rSlice 4 rBool) [v1] ([] : List Bool), Ch.blk g1 [.int .i64 p0a.1, va0, va1] 27, F])
  clear A2 S2 a2 w2
  refine rn A3 S3 (sv (opT_field_addr (g := g1) (b := 0) tf27_1 rfl rfl) rfl rfl (sop (opT_load_blk (g := g1) (off := 1) (E := 27) (l := [.int .i64 p0a.1, va0, va1]) (d := [va0]) (u := va0) ti22 rfl rfl rfl rfl rfl rfl) (perm_front (i := 1) rfl) rfl rfl ?_))
  rintro u a4 w4 hf A4 (S4 : St I w0 w4 [Ch.blk g1 [.int .i64 p0a.1, va0, va1] 27, Ch.own (rSlice 4 rBool) [v1] ([] : List Bool), F])
  obtain rfl := Eq.symm hf
  clear A3 S3 a3 w3
  obtain ⟨z1, e1, hm⟩ := bind_some hm
  refine rn A4 S4 (sop (opT_app_fro (E := 4) (R := rBool) (S := rBool) (s := v1) (u := va0) e1 cpy_bool rfl ra0 Try.underlying22 tz4 rfl (by decide) rfl (by decide) rfl rfl rfl) (perm_front (i := 1) rfl) rfl rfl ?_)
  rintro v2 a5 w5 - A5 (S5 : St I w0 w5 [Ch.own (rSlice 4 rBool) [v2] z1, Ch.blk g1 [.int .i64 p0a.1, va0, va1] 27, F])
  clear A4 S4 a4 w4
  refine rn A5 S5 (sv (opT_assign (v := v2) rfl rfl) rfl rfl (enR (L' := [(1, .pointer (some ⟨g1, 0, none⟩)), (3, v2)]) rfl ?_))
  clear A5 S5 a5 w5;intro a6 w6 A6 S6
  refine nrm (wp_seq (wp_seq (wp_region_lit (rn A6 S6 (sv (opT_assign (v := .int .i64 0) rfl rfl) rfl rfl (enR (L' := [(1, .pointer (some ⟨g1, 0, none⟩)), (3, v2), (4, .int .i64 0)]) rfl ?_))))))
  clear A6 S6 a6 w6;intro a7 w7 A7 S7
  refine nrm ?_
  obtain ⟨o35, hl9, hc27⟩ := bindL_some hm
  refine wp_cut (fun a w => ∃ s54 : (List Bool) × Int, o35 = .brk s54 ∧ Agr 55 a [(3, v2)] ∧ St I w0 w [Ch.own (rSlice 4 rBool) [v2] s54.1, F]) ?_ ?_
  · refine wp_block (wp_loopM (R := List Bool) (S := (List Bool) × Int) (fun s53 a w => Agr 55 a [(1, .pointer (some ⟨g1, 0, none⟩)), (3, v2), (4, .int .i64 s53.2)] ∧ St I w0 w [Ch.own (rSlice 4 rBool) [v2] s53.1, Ch.blk g1 [.int .i64 p0a.1, va0, va1] 27, F]) hl9 ?_ ?_)
    · exact ⟨A7.pick' ⟨rfl, rfl, rfl, trivial⟩, St.sel S7 3 [0, 1, 2] rfl rfl⟩
    rintro s53 o36 hm hf9 a470 w470 ⟨A470, S470⟩
    unfold m_s_l11Live_l0 at hm
    refine wp_seq (wp_seq (wp_region_lit (rn A470 S470 (sv (opT_move (v := .int .i64 s53.2) rfl rfl) rfl rfl (sv (opT_field_addr (g := g1) (b := 0) tf27_1 rfl rfl) rfl rfl (sop (opT_load_blk (g := g1) (off := 1) (E := 27) (l := [.int .i64 p0a.1, va0, va1]) (d := [va0]) (u := va0) ti22 rfl rfl rfl rfl rfl rfl) (perm_front (i := 1) rfl) rfl rfl ?_))))))
    rintro u a471 w471 hf A471 (S471 : St I w0 w471 [Ch.blk g1 [.int .i64 p0a.1, va0, va1] 27, Ch.own (rSlice 4 rBool) [v2] s53.1, F])
    obtain rfl := Eq.symm hf
    clear A470 S470 a470 w470
    refine rn A471 S471 (sv (opT_len_hd (v := va0) (n := p0a.2.1.length) (Hd.of_rd ra0) Try.underlying22 rfl rfl) rfl rfl (sv (opT_cmp (k := .i64) (m := s53.2) (n := (p0a.2.1.length : Int)) (c := decide (s53.2 < (p0a.2.1.length : Int))) rfl rfl rfl rfl rfl) rfl rfl (enR (L' := [(1, .pointer (some ⟨g1, 0, none⟩)), (3, v2), (4, .int .i64 s53.2), (15, .bool (decide (s53.2 < (p0a.2.1.length : Int))))]) rfl ?_)))
    clear A471 S471 a471 w471;intro a472 w472 A472 S472
    refine nrm ?_
    rcases two (decide (s53.2 < (p0a.2.1.length : Int))) with hb98 | hb98
    · replace hm := ifFe hb98 hm
      refine cnd_false (b := decide (s53.2 < (p0a.2.1.length : Int))) A472 rfl rfl hb98 ?_
      exact wp_exit (thenX (thenX (ex_in (nrm (⟨_, loopBrk hm hf9, ⟨A472.pick' ⟨rfl, trivial⟩, St.sel S472 3 [1, 2] rfl rfl⟩⟩)))))
    replace hm := ifTe hb98 hm
    refine cnd_true (b := decide (s53.2 < (p0a.2.1.length : Int))) A472 rfl rfl hb98 ?_
    refine wp_skip (nrm (wp_seq (wp_block (wp_seq (wp_region_lit (rn A472 S472 (sv (opT_assign (v := .int .i64 0) rfl rfl) rfl rfl (enR (L' := [(1, .pointer (some ⟨g1, 0, none⟩)), (3, v2), (4, .int .i64 s53.2), (5, .int .i64 0)]) rfl ?_))))))))
    clear A472 S472 a472 w472;intro a473 w473 A473 S473
    refine nrm ?_
    obtain ⟨o47, hl12, hc36⟩ := bindL_some hm
    refine wp_cut (fun a w => ∃ s72 : (List Bool) × Int, o47 = .brk s72 ∧ Agr 55 a [(1, .pointer (some ⟨g1, 0, none⟩)), (3, v2), (4, .int .i64 s53.2)] ∧ St I w0 w [Ch.own (rSlice 4 rBool) [v2] s72.1, Ch.blk g1 [.int .i64 p0a.1, va0, va1] 27, F]) ?_ ?_
    · refine wp_block (wp_loopM (R := List Bool) (S := (List Bool) × Int) (fun s71 a w => Agr 55 a [(1, .pointer (some ⟨g1, 0, none⟩)), (3, v2), (4, .int .i64 s53.2), (5, .int .i64 s71.2)] ∧ St I w0 w [Ch.own (rSlice 4 rBool) [v2] s71.1, Ch.blk g1 [.int .i64 p0a.1, va0, va1] 27, F]) hl12 ?_ ?_)
      · exact ⟨A473.pick' ⟨rfl, rfl, rfl, rfl, trivial⟩, St.sel S473 3 [1, 0, 2] rfl rfl⟩
      rintro s71 o48 hm hf12 a624 w624 ⟨A624, S624⟩
      unfold m_s_l11Live_l1 at hm
      refine wp_seq (wp_seq (wp_region_lit (rn A624 S624 (sv (opT_move (v := .int .i64 s71.2) rfl rfl) rfl rfl (sv (opT_field_addr (g := g1) (b := 0) tf27_1 rfl rfl) rfl rfl (sop (opT_load_blk (g := g1) (off := 1) (E := 27) (l := [.int .i64 p0a.1, va0, va1]) (d := [va0]) (u := va0) ti22 rfl rfl rfl rfl rfl rfl) (perm_front (i := 1) rfl) rfl rfl ?_))))))
      rintro u a625 w625 hf A625 (S625 : St I w0 w625 [Ch.blk g1 [.int .i64 p0a.1, va0, va1] 27, Ch.own (rSlice 4 rBool) [v2] s71.1, F])
      obtain rfl := Eq.symm hf
      clear A624 S624 a624 w624
      refine rn A625 S625 (sv (opT_len_hd (v := va0) (n := p0a.2.1.length) (Hd.of_rd ra0) Try.underlying22 rfl rfl) rfl rfl (sv (opT_cmp (k := .i64) (m := s71.2) (n := (p0a.2.1.length : Int)) (c := decide (s71.2 < (p0a.2.1.length : Int))) rfl rfl rfl rfl rfl) rfl rfl (enR (L' := [(1, .pointer (some ⟨g1, 0, none⟩)), (3, v2), (4, .int .i64 s53.2), (5, .int .i64 s71.2), (22, .bool (decide (s71.2 < (p0a.2.1.length : Int))))]) rfl ?_)))
      clear A625 S625 a625 w625;intro a626 w626 A626 S626
      refine nrm ?_
      rcases two (decide (s71.2 < (p0a.2.1.length : Int))) with hb131 | hb131
      · replace hm := ifFe hb131 hm
        refine cnd_false (b := decide (s71.2 < (p0a.2.1.length : Int))) A626 rfl rfl hb131 ?_
        exact wp_exit (thenX (thenX (ex_in (nrm (⟨_, loopBrk hm hf12, ⟨A626.pick' ⟨rfl, rfl, rfl, trivial⟩, St.sel S626 3 [1, 0, 2] rfl rfl⟩⟩)))))
      replace hm := ifTe hb131 hm
      refine cnd_true (b := decide (s71.2 < (p0a.2.1.length : Int))) A626 rfl rfl hb131 ?_
      refine wp_skip (nrm (wp_seq (wp_block (wp_seq (wp_region_lit (rn A626 S626 (sv (opT_assign (v := .int .i64 0) rfl rfl) rfl rfl (enR (L' := [(1, .pointer (some ⟨g1, 0, none⟩)), (3, v2), (4, .int .i64 s53.2), (5, .int .i64 s71.2), (6, .int .i64 0)]) rfl ?_))))))))
      clear A626 S626 a626 w626;intro a627 w627 A627 S627
      refine nrm ?_
      obtain ⟨o51, hl13, hc39⟩ := bindL_some hm
      refine wp_cut (fun a w => ∃ s78 : (List Bool) × Int, o51 = .brk s78 ∧ Agr 55 a [(1, .pointer (some ⟨g1, 0, none⟩)), (3, v2), (4, .int .i64 s53.2), (5, .int .i64 s71.2)] ∧ St I w0 w [Ch.own (rSlice 4 rBool) [v2] s78.1, Ch.blk g1 [.int .i64 p0a.1, va0, va1] 27, F]) ?_ ?_
      · refine wp_block (wp_loopM (R := List Bool) (S := (List Bool) × Int) (fun s77 a w => Agr 55 a [(1, .pointer (some ⟨g1, 0, none⟩)), (3, v2), (4, .int .i64 s53.2), (5, .int .i64 s71.2), (6, .int .i64 s77.2)] ∧ St I w0 w [Ch.own (rSlice 4 rBool) [v2] s77.1, Ch.blk g1 [.int .i64 p0a.1, va0, va1] 27, F]) hl13 ?_ ?_)
        · exact ⟨A627.pick' ⟨rfl, rfl, rfl, rfl, rfl, trivial⟩, St.sel S627 3 [1, 0, 2] rfl rfl⟩
        rintro s77 o52 hm hf13 a674 w674 ⟨A674, S674⟩
        unfold m_s_l11Live_l2 at hm
        refine wp_seq (wp_seq (wp_region_lit (rn A674 S674 (sv (opT_move (v := .int .i64 s77.2) rfl rfl) rfl rfl (sv (opT_cmp (k := .i64) (m := s77.2) (n := 9) (c := decide (s77.2 < 9)) rfl rfl rfl rfl rfl) rfl rfl (enR (L' := [(1, .pointer (some ⟨g1, 0, none⟩)), (3, v2), (4, .int .i64 s53.2), (5, .int .i64 s71.2), (6, .int .i64 s77.2), (26, .bool (decide (s77.2 < 9)))]) rfl ?_))))))
        clear A674 S674 a674 w674;intro a675 w675 A675 S675
        refine nrm ?_
        rcases two (decide (s77.2 < 9)) with hb142 | hb142
        · replace hm := ifFe hb142 hm
          refine cnd_false (b := decide (s77.2 < 9)) A675 rfl rfl hb142 ?_
          exact wp_exit (thenX (thenX (ex_in (nrm (⟨_, loopBrk hm hf13, ⟨A675.pick' ⟨rfl, rfl, rfl, rfl, trivial⟩, St.sel S675 3 [0, 1, 2] rfl rfl⟩⟩)))))
        replace hm := ifTe hb142 hm
        refine cnd_true (b := decide (s77.2 < 9)) A675 rfl rfl hb142 ?_
        refine wp_skip (nrm ?_)
        obtain ⟨s79, hj27, hm⟩ := bind_some hm
        refine wp_seq_cut (fun a w => Agr 55 a [(1, .pointer (some ⟨g1, 0, none⟩)), (3, v2), (4, .int .i64 s53.2), (5, .int .i64 s71.2), (6, .int .i64 s77.2)] ∧ St I w0 w [Ch.own (rSlice 4 rBool) [v2] s79, Ch.blk g1 [.int .i64 p0a.1, va0, va1] 27, F]) ?_ ?_
        · replace hm := hj27
          refine wp_block (wp_seq (wp_region_lit (rn A675 S675 (sv (opT_field_addr (g := g1) (b := 0) tf27_2 rfl rfl) rfl rfl (sop (opT_load_blk (g := g1) (off := 2) (E := 27) (l := [.int .i64 p0a.1, va0, va1]) (d := [va1]) (u := va1) ti23 rfl rfl rfl rfl rfl rfl) (perm_front (i := 1) rfl) rfl rfl ?_)))))
          rintro u a686 w686 hf A686 (S686 : St I w0 w686 [Ch.blk g1 [.int .i64 p0a.1, va0, va1] 27, Ch.own (rSlice 4 rBool) [v2] s77.1, F])
          obtain rfl := Eq.symm hf
          clear A675 S675 a675 w675
          refine rn A686 S686 (sv (opT_move (v := .int .i64 s71.2) rfl rfl) rfl rfl ?_)
          obtain ⟨x319, e320, hm⟩ := bind_some hm
          refine sv (opT_index_hd (xs := p0a.2.2) (i := s71.2) (n := 1) (Hd.of_rd ra1) Try.underlying23 ti34 rfl rfl rfl (getI_in e320)) rfl rfl (so0 (opT_load_el (S := rSlice 3 rInt) (xs := p0a.2.2) (a := x319) (i := s71.2) (k := 1) (off := 0) (f := fun (x : List Int) => x) ra1 e320 Fld.self ti34 rfl rfl rfl rfl rfl) rfl rfl ?_)
          rintro v109 a687 w687 hf A687 S687
          have r107 := lds_sl hf
          clear hf
          clear A686 S686 a686 w686
          refine rn A687 S687 (sv (opT_move (v := .int .i64 s77.2) rfl rfl) rfl rfl ?_)
          obtain ⟨x320, e321, hm⟩ := bind_some hm
          refine sv (opT_index_hd (xs := x319) (i := s77.2) (n := 1) (Hd.of_rd r107) Try.underlying34 ti3 rfl rfl rfl (getI_in e321)) rfl rfl (so0 (opT_load_el (S := rInt) (xs := x319) (a := x320) (i := s77.2) (k := 1) (off := 0) (f := fun (x : Int) => x) r107 e321 Fld.self ti3 rfl rfl rfl rfl rfl) rfl rfl ?_)
          rintro u a688 w688 hf A688 S688
          obtain rfl := lds_one hf
          clear A687 S687 a687 w687
          refine rn A688 S688 (sv (opT_cmp (k := .i64) (m := x320) (n := 0) (c := decide (x320 ≥ 0)) rfl rfl rfl rfl rfl) rfl rfl (sv (opT_move (v := .bool (decide (x320 ≥ 0))) rfl rfl) rfl rfl ?_))
          rcases two (decide (x320 ≥ 0)) with hb145 | hb145
          · replace hm := ifFe hb145 hm
            refine ssk (g := 9) (d := 38) (want := true) (b := decide (x320 ≥ 0)) rfl rfl rfl hb145 rfl (ssk (g := 9) (d := 38) (want := true) (b := decide (x320 ≥ 0)) rfl rfl rfl hb145 rfl (ssk (g := 9) (d := 38) (want := true) (b := decide (x320 ≥ 0)) rfl rfl rfl hb145 rfl (ssk (g := 9) (d := 38) (want := true) (b := decide (x320 ≥ 0)) rfl rfl rfl hb145 rfl (ssk (g := 9) (d := 38) (want := true) (b := decide (x320 ≥ 0)) rfl rfl rfl hb145 rfl (ssk (g := 9) (d := 38) (want := true) (b := decide (x320 ≥ 0)) rfl rfl rfl hb145 rfl (ssk (g := 9) (d := 38) (want := true) (b := decide (x320 ≥ 0)) rfl rfl rfl hb145 rfl (ssk (g := 9) (d := 38) (want := true) (b := decide (x320 ≥ 0)) rfl rfl rfl hb145 rfl (ssk (g := 9) (d := 38) (want := true) (b := decide (x320 ≥ 0)) rfl rfl rfl hb145 rfl (ssk (g := 9) (d := 38) (want := true) (b := decide (x320 ≥ 0)) rfl rfl rfl hb145 rfl (ssk (g := 9) (d := 38) (want := true) (b := decide (x320 ≥ 0)) rfl rfl rfl hb145 rfl (sv (opT_pick (b := decide (x320 ≥ 0)) (v := .bool false) rfl rfl (ifF hb145)) rfl rfl (enR (L' := [(1, .pointer (some ⟨g1, 0, none⟩)), (3, v2), (4, .int .i64 s53.2), (5, .int .i64 s71.2), (6, .int .i64 s77.2), (50, .bool false)]) rfl ?_))))))))))))
            clear A688 S688 a688 w688;intro a689 w689 A689 S689
            refine nrm (cnd_false (b := false) A689 rfl rfl rfl ?_)
            refine wp_skip (nrmB (nrm ?_))
            obtain rfl := Option.some.inj hm
            exact ⟨A689.pick' ⟨rfl, rfl, rfl, rfl, rfl, trivial⟩, St.sel S689 3 [1, 0, 2] rfl rfl⟩
          replace hm := ifTe hb145 hm
          refine svg (g := 9) (d := 38) (want := true) (b := decide (x320 ≥ 0)) rfl rfl rfl hb145 (opT_move (v := v2) rfl rfl) rfl (svg (g := 9) (d := 38) (want := true) (b := decide (x320 ≥ 0)) rfl rfl rfl hb145 (opT_field_addr (g := g1) (b := 0) tf27_2 rfl rfl) rfl (sopg (g := 9) (d := 38) (want := true) (b := decide (x320 ≥ 0)) rfl rfl rfl hb145 (opT_load_blk (g := g1) (off := 2) (E := 27) (l := [.int .i64 p0a.1, va0, va1]) (d := [va1]) (u := va1) ti23 rfl rfl rfl rfl rfl rfl) (perm_front (i := 0) rfl) rfl ?_))
          rintro u a690 w690 hf A690 (S690 : St I w0 w690 [Ch.blk g1 [.int .i64 p0a.1, va0, va1] 27, Ch.own (rSlice 4 rBool) [v2] s77.1, F])
          obtain rfl := Eq.symm hf
          clear A688 S688 a688 w688
          refine rn A690 S690 (svg (g := 9) (d := 38) (want := true) (b := decide (x320 ≥ 0)) rfl rfl rfl hb145 (opT_move (v := .int .i64 s71.2) rfl rfl) rfl ?_)
          obtain ⟨x321, e322, hm⟩ := bind_some hm
          refine svg (g := 9) (d := 38) (want := true) (b := decide (x320 ≥ 0)) rfl rfl rfl hb145 (opT_index_hd (xs := p0a.2.2) (i := s71.2) (n := 1) (Hd.of_rd ra1) Try.underlying23 ti34 rfl rfl rfl (getI_in e322)) rfl (so0g (g := 9) (d := 38) (want := true) (b := decide (x320 ≥ 0)) rfl rfl rfl hb145 (opT_load_el (S := rSlice 3 rInt) (xs := p0a.2.2) (a := x321) (i := s71.2) (k := 1) (off := 0) (f := fun (x : List Int) => x) ra1 e322 Fld.self ti34 rfl rfl rfl rfl rfl) rfl ?_)
          rintro v110 a691 w691 hf A691 S691
          have r108 := lds_sl hf
          clear hf
          clear A690 S690 a690 w690
          refine rn A691 S691 (svg (g := 9) (d := 38) (want := true) (b := decide (x320 ≥ 0)) rfl rfl rfl hb145 (opT_move (v := .int .i64 s77.2) rfl rfl) rfl ?_)
          obtain ⟨x322, e323, hm⟩ := bind_some hm
          refine svg (g := 9) (d := 38) (want := true) (b := decide (x320 ≥ 0)) rfl rfl rfl hb145 (opT_index_hd (xs := x321) (i := s77.2) (n := 1) (Hd.of_rd r108) Try.underlying34 ti3 rfl rfl rfl (getI_in e323)) rfl (so0g (g := 9) (d := 38) (want := true) (b := decide (x320 ≥ 0)) rfl rfl rfl hb145 (opT_load_el (S := rInt) (xs := x321) (a := x322) (i := s77.2) (k := 1) (off := 0) (f := fun (x : Int) => x) r108 e323 Fld.self ti3 rfl rfl rfl rfl rfl) rfl ?_)
          rintro u a692 w692 hf A692 S692
          obtain rfl := lds_one hf
          clear A691 S691 a691 w691
          obtain ⟨x323, e324, hm⟩ := bind_some hm
          refine rn A692 S692 (svg (g := 9) (d := 38) (want := true) (b := decide (x320 ≥ 0)) rfl rfl rfl hb145 (opT_index_hd (xs := s77.1) (i := x322) (n := 1) (St.hd S692 1 rfl).1 Try.underlying22 ti4 rfl rfl rfl (getI_in e324)) rfl (sopg (g := 9) (d := 38) (want := true) (b := decide (x320 ≥ 0)) rfl rfl rfl hb145 (opT_load_own (E := 4) (R := rBool) (S := rBool) (xs := s77.1) (a := x323) (i := x322) (k := 1) (off := 0) (f := fun (x : Bool) => x) sh_bool e324 Fld.self ti4 rfl rfl rfl rfl rfl) (perm_front (i := 1) rfl) rfl ?_))
          rintro u a693 w693 hf A693 (S693 : St I w0 w693 [Ch.own (rSlice 4 rBool) [v2] s77.1, Ch.blk g1 [.int .i64 p0a.1, va0, va1] 27, F])
          obtain rfl := lds_one hf
          clear A692 S692 a692 w692
          refine rn A693 S693 (sv (opT_pick (b := decide (x320 ≥ 0)) (v := .bool x323) rfl rfl (ifT hb145)) rfl rfl (enR (L' := [(1, .pointer (some ⟨g1, 0, none⟩)), (3, v2), (4, .int .i64 s53.2), (5, .int .i64 s71.2), (6, .int .i64 s77.2), (50, .bool x323)]) rfl ?_))
          clear A693 S693 a693 w693;intro a694 w694 A694 S694
          refine nrm ?_
          rcases two (x323) with hb146 | hb146
          · replace hm := ifFe hb146 hm
            refine cnd_false (b := x323) A694 rfl rfl hb146 ?_
            refine wp_skip (nrmB (nrm ?_))
            obtain rfl := Option.some.inj hm
            exact ⟨A694.pick' ⟨rfl, rfl, rfl, rfl, rfl, trivial⟩, St.sel S694 3 [0, 1, 2] rfl rfl⟩
          replace hm := ifTe hb146 hm
          refine cnd_true (b := x323) A694 rfl rfl hb146 ?_
          refine wp_region_lit (rn A694 S694 (sv (opT_move (v := v2) rfl rfl) rfl rfl (sv (opT_move (v := .int .i64 s71.2) rfl rfl) rfl rfl ?_)))
          obtain ⟨x324, e325, hm⟩ := bind_some hm
          refine sv (opT_index_hd (xs := s77.1) (i := s71.2) (n := 1) (St.hd S694 0 rfl).1 Try.underlying22 ti4 rfl rfl rfl (getI_in e325)) rfl rfl (sop (opT_store_el (E := 4) (R := rBool) (S := rBool) (xs := s77.1) (a := x324) (b := true) (i := s71.2) (k := 1) (off := 0) (f := fun x y => y) (v := v2) (d := [.bool true]) (u := .bool true) sh_bool cpy_bool e325 Upd.self ti4 rfl rfl rfl rfl (allC rfl allN) rfl rfl (by decide) rfl) (perm_front (i := 0) rfl) rfl rfl ?_)
          rintro _ a695 w695 - A695 (S695 : St I w0 w695 [Ch.own (rSlice 4 rBool) [v2] (s77.1.set s71.2.toNat true), Ch.blk g1 [.int .i64 p0a.1, va0, va1] 27, F])
          clear A694 S694 a694 w694
          replace A695 := A695.pk (L' := [(1, .pointer (some ⟨g1, 0, none⟩)), (3, v2), (4, .int .i64 s53.2), (5, .int .i64 s71.2), (6, .int .i64 s77.2)]) rfl
          refine wpList_nil (nrmB (nrm ?_))
          obtain rfl := Option.some.inj hm
          exact ⟨A695.pick' ⟨rfl, rfl, rfl, rfl, rfl, trivial⟩, St.sel S695 3 [0, 1, 2] rfl rfl⟩
        rintro a696 w696 ⟨A696, S696⟩
        refine wp_region_lit (rn A696 S696 (sv (opT_move (v := .int .i64 s77.2) rfl rfl) rfl rfl (sv (opT_add (m := s77.2) (n := 1) rfl rfl rfl) rfl rfl (sv (opT_assign (v := .int .i64 (IntKind.i64.wrap (s77.2 + 1))) rfl rfl) rfl rfl (enR (L' := [(1, .pointer (some ⟨g1, 0, none⟩)), (3, v2), (4, .int .i64 s53.2), (5, .int .i64 s71.2), (6, .int .i64 (IntKind.i64.wrap (s77.2 + 1)))]) rfl ?_)))))
        clear A696 S696 a696 w696;intro a697 w697 A697 S697
        exact nrm (⟨_, (Option.some.inj hm).symm, ⟨A697.pick' ⟨rfl, rfl, rfl, rfl, rfl, trivial⟩, St.sel S697 3 [0, 1, 2] rfl rfl⟩⟩)
      rintro a698 w698 ⟨s78, ho38, A698, S698⟩
      replace hm := loopOut ho38 hc39
      clear ho38 hc39 hl13
      refine nrmB (nrm (wp_region_lit (rn A698 S698 (sv (opT_move (v := .int .i64 s71.2) rfl rfl) rfl rfl (sv (opT_add (m := s71.2) (n := 1) rfl rfl rfl) rfl rfl (sv (opT_assign (v := .int .i64 (IntKind.i64.wrap (s71.2 + 1))) rfl rfl) rfl rfl (enR (L' := [(1, .pointer (some ⟨g1, 0, none⟩)), (3, v2), (4, .int .i64 s53.2), (5, .int .i64 (IntKind.i64.wrap (s71.2 + 1)))]) rfl ?_)))))))
      clear A698 S698 a698 w698;intro a699 w699 A699 S699
      exact nrm (⟨_, (Option.some.inj hm).symm, ⟨A699.pick' ⟨rfl, rfl, rfl, rfl, trivial⟩, St.sel S699 3 [0, 1, 2] rfl rfl⟩⟩)
    rintro a700 w700 ⟨s72, ho39, A700, S700⟩
    replace hm := loopOut ho39 hc36
    clear ho39 hc36 hl12
    refine nrmB (nrm (wp_region_lit (rn A700 S700 (sv (opT_move (v := .int .i64 s53.2) rfl rfl) rfl rfl (sv (opT_add (m := s53.2) (n := 1) rfl rfl rfl) rfl rfl (sv (opT_assign (v := .int .i64 (IntKind.i64.wrap (s53.2 + 1))) rfl rfl) rfl rfl (enR (L' := [(1, .pointer (some ⟨g1, 0, none⟩)), (3, v2), (4, .int .i64 (IntKind.i64.wrap (s53.2 + 1)))]) rfl ?_)))))))
    clear A700 S700 a700 w700;intro a701 w701 A701 S701
    exact nrm (⟨_, (Option.some.inj hm).symm, ⟨A701.pick' ⟨rfl, rfl, rfl, trivial⟩, St.sel S701 3 [0, 1, 2] rfl rfl⟩⟩)
  rintro a702 w702 ⟨s54, ho40, A702, S702⟩
  replace hm := loopOut ho40 hc27
  clear ho40 hc27 hl9
  refine nrm (wp_seq (wp_region_lit (rn A702 S702 (sv (opT_move (v := v2) rfl rfl) rfl rfl (sv (opT_assign (v := v2) rfl rfl) rfl rfl (enR (L' := [(2, v2)]) rfl ?_))))))
  clear A702 S702 a702 w702;intro a703 w703 A703 S703
  refine nrm (wp_ret ?_)
  obtain rfl := Option.some.inj hm
  exact ret_1 A703 rfl (res_tmp A703 rfl) ⟨_, rfl, trivial, _, Hp.le.rfl, St.sel (S703) 2 [0, 1] rfl rfl⟩
theorem c_s_l12Key (p0a : Int × (List Bool) × (List (List Int))) (p1classes : List Int) (p2s : Int) (r : List Int) (hm : m_s_l12Key p0a p1classes p2s = some r) {I : Hp} {w0 : World} (va0 : Value) (va1 : Value) (va2 : Value) (ra0 : (rSlice 4 rBool).rd I [va0] p0a.2.1) (ra1 : (rSlice 34 (rSlice 3 rInt)).rd I [va1] p0a.2.2) (ra2 : (rSlice 3 rInt).rd I [va2] p1classes) : Con Try.prog 150 #[.agg #[.int .i64 p0a.1, va0, va1], va2, .int .i64 p2s] I w0 [] (fun v => True) (fun v => [Ch.own (rSlice 3 rInt) [v] r]) := by
  refine con_of_wp (n := 40) [(0, .agg #[.int .i64 p0a.1, va0, va1]), (1, va2), (2, .int .i64 p2s)] Try.func150 rfl rfl (Nat.le_of_ble_eq_true rfl) (args_all ⟨rfl, rfl, rfl, trivial⟩) (fun F w a ha hs => ?_) (fun v => ⟨dp_own (dp_slice dp_int), trivial⟩)
  unfold m_s_l12Key at hm
  refine wp_seq (wp_region_lit (rn ha hs (sop (opT_box (u := .agg #[.int .i64 p0a.1, va0, va1]) (l := [.int .i64 p0a.1, va0, va1]) rfl rfl rfl) (List.Perm.refl _) rfl rfl ?_)))
  rintro _ a1 w1 ⟨g1, rfl⟩ A1 (S1 : St I w0 w1 [Ch.blk g1 [.int .i64 p0a.1, va0, va1] 27, F])
  clear ha hs a w
  refine rn A1 S1 (sv (opT_assign (v := .slice none 0 0) rfl rfl) rfl rfl (enR (L' := [(1, va2), (2, .int .i64 p2s), (3, .pointer (some ⟨g1, 0, none⟩))]) rfl ?_))
  clear A1 S1 a1 w1;intro a2 w2 A2 S2
  refine nrm (wp_seq (wp_region_lit (rn A2 S2 (sv (opT_move (v := va2) rfl rfl) rfl rfl (sv (opT_move (v := .int .i64 p2s) rfl rfl) rfl rfl ?_)))))
  obtain ⟨x1, e1, hm⟩ := bind_some hm
  refine sv (opT_index_hd (xs := p1classes) (i := p2s) (n := 1) (Hd.of_rd ra2) Try.underlying34 ti3 rfl rfl rfl (getI_in e1)) rfl rfl (so0 (opT_load_el (S := rInt) (xs := p1classes) (a := x1) (i := p2s) (k := 1) (off := 0) (f := fun (x : Int) => x) ra2 e1 Fld.self ti3 rfl rfl rfl rfl rfl) rfl rfl ?_)
  rintro u a3 w3 hf A3 S3
  obtain rfl := lds_one hf
  clear A2 S2 a2 w2
  refine rn A3 S3 (sop (opT_lit_cpy (E := 3) (R := rInt) (S := rInt) [(.int .i64 x1, [.int .i64 x1])] [x1] cpy_int (rd_all ⟨rfl, trivial⟩) Try.underlying34 tz3 (by decide) rfl (by decide) (by decide) rfl rfl rfl rfl (us_all ⟨⟨rfl, rfl⟩, trivial⟩)) (List.Perm.refl _) rfl rfl ?_)
  rintro v1 a4 w4 - A4 (S4 : St I w0 w4 [Ch.own (rSlice 3 rInt) [v1] ([x1]), Ch.blk g1 [.int .i64 p0a.1, va0, va1] 27, F])
  clear A3 S3 a3 w3
  refine rn A4 S4 (sv (opT_assign (v := v1) rfl rfl) rfl rfl (enR (L' := [(1, va2), (2, .int .i64 p2s), (3, .pointer (some ⟨g1, 0, none⟩)), (7, v1)]) rfl ?_))
  clear A4 S4 a4 w4;intro a5 w5 A5 S5
  refine nrm (wp_seq (wp_seq (wp_region_lit (rn A5 S5 (sv (opT_assign (v := .int .i64 0) rfl rfl) rfl rfl (enR (L' := [(1, va2), (2, .int .i64 p2s), (3, .pointer (some ⟨g1, 0, none⟩)), (7, v1), (8, .int .i64 0)]) rfl ?_))))))
  clear A5 S5 a5 w5;intro a6 w6 A6 S6
  refine nrm ?_
  obtain ⟨o3, hl1, hc3⟩ := bindL_some hm
  refine wp_cut (fun a w => ∃ s6 : (List Int) × Int, o3 = .brk s6 ∧ ∃ v25 : Value, Agr 40 a [(7, v25)] ∧ St I w0 w [Ch.own (rSlice 3 rInt) [v25] s6.1, F]) ?_ ?_
  · refine wp_block (wp_loopM (R := List Int) (S := (List Int) × Int) (fun s5 a w => ∃ v26 : Value, Agr 40 a [(1, va2), (2, .int .i64 p2s), (3, .pointer (some ⟨g1, 0, none⟩)), (7, v26), (8, .int .i64 s5.2)] ∧ St I w0 w [Ch.own (rSlice 3 rInt) [v26] s5.1, Ch.blk g1 [.int .i64 p0a.1, va0, va1] 27, F]) hl1 ?_ ?_)
    · exact ⟨v1, A6.pick' ⟨rfl, rfl, rfl, rfl, rfl, trivial⟩, St.sel S6 3 [0, 1, 2] rfl rfl⟩
    rintro s5 o4 hm hf1 a61 w61 ⟨v26, A61, S61⟩
    unfold m_s_l12Key_l0 at hm
    refine wp_seq (wp_seq (wp_region_lit (rn A61 S61 (sv (opT_move (v := .int .i64 s5.2) rfl rfl) rfl rfl (sv (opT_cmp (k := .i64) (m := s5.2) (n := 9) (c := decide (s5.2 < 9)) rfl rfl rfl rfl rfl) rfl rfl (enR (L' := [(1, va2), (2, .int .i64 p2s), (3, .pointer (some ⟨g1, 0, none⟩)), (7, v26), (8, .int .i64 s5.2), (16, .bool (decide (s5.2 < 9)))]) rfl ?_))))))
    clear A61 S61 a61 w61;intro a62 w62 A62 S62
    refine nrm ?_
    rcases two (decide (s5.2 < 9)) with hb7 | hb7
    · replace hm := ifFe hb7 hm
      refine cnd_false (b := decide (s5.2 < 9)) A62 rfl rfl hb7 ?_
      exact wp_exit (thenX (thenX (ex_in (nrm (⟨_, loopBrk hm hf1, ⟨v26, A62.pick' ⟨rfl, trivial⟩, St.sel S62 3 [0, 2] rfl rfl⟩⟩)))))
    replace hm := ifTe hb7 hm
    refine cnd_true (b := decide (s5.2 < 9)) A62 rfl rfl hb7 ?_
    refine wp_skip (nrm ?_)
    obtain ⟨s7, hj3, hm⟩ := bind_some hm
    refine wp_seq_cut (fun a w => ∃ v32 : Value, Agr 40 a [(1, va2), (2, .int .i64 p2s), (3, .pointer (some ⟨g1, 0, none⟩)), (7, v32), (8, .int .i64 s5.2)] ∧ St I w0 w [Ch.own (rSlice 3 rInt) [v32] s7, Ch.blk g1 [.int .i64 p0a.1, va0, va1] 27, F]) ?_ ?_
    · replace hm := hj3
      refine wp_block (wp_seq (wp_region_lit (rn A62 S62 (sv (opT_field_addr (g := g1) (b := 0) tf27_2 rfl rfl) rfl rfl (sop (opT_load_blk (g := g1) (off := 2) (E := 27) (l := [.int .i64 p0a.1, va0, va1]) (d := [va1]) (u := va1) ti23 rfl rfl rfl rfl rfl rfl) (perm_front (i := 1) rfl) rfl rfl ?_)))))
      rintro u a75 w75 hf A75 (S75 : St I w0 w75 [Ch.blk g1 [.int .i64 p0a.1, va0, va1] 27, Ch.own (rSlice 3 rInt) [v26] s5.1, F])
      obtain rfl := Eq.symm hf
      clear A62 S62 a62 w62
      refine rn A75 S75 (sv (opT_move (v := .int .i64 p2s) rfl rfl) rfl rfl ?_)
      obtain ⟨x17, e27, hm⟩ := bind_some hm
      refine sv (opT_index_hd (xs := p0a.2.2) (i := p2s) (n := 1) (Hd.of_rd ra1) Try.underlying23 ti34 rfl rfl rfl (getI_in e27)) rfl rfl (so0 (opT_load_el (S := rSlice 3 rInt) (xs := p0a.2.2) (a := x17) (i := p2s) (k := 1) (off := 0) (f := fun (x : List Int) => x) ra1 e27 Fld.self ti34 rfl rfl rfl rfl rfl) rfl rfl ?_)
      rintro v33 a76 w76 hf A76 S76
      have r6 := lds_sl hf
      clear hf
      clear A75 S75 a75 w75
      refine rn A76 S76 (sv (opT_move (v := .int .i64 s5.2) rfl rfl) rfl rfl ?_)
      obtain ⟨x18, e28, hm⟩ := bind_some hm
      refine sv (opT_index_hd (xs := x17) (i := s5.2) (n := 1) (Hd.of_rd r6) Try.underlying34 ti3 rfl rfl rfl (getI_in e28)) rfl rfl (so0 (opT_load_el (S := rInt) (xs := x17) (a := x18) (i := s5.2) (k := 1) (off := 0) (f := fun (x : Int) => x) r6 e28 Fld.self ti3 rfl rfl rfl rfl rfl) rfl rfl ?_)
      rintro u a77 w77 hf A77 S77
      obtain rfl := lds_one hf
      clear A76 S76 a76 w76
      refine rn A77 S77 (sv (opT_assign (v := .int .i64 x18) rfl rfl) rfl rfl (enR (L' := [(1, va2), (2, .int .i64 p2s), (3, .pointer (some ⟨g1, 0, none⟩)), (7, v26), (8, .int .i64 s5.2), (9, .int .i64 x18)]) rfl ?_))
      clear A77 S77 a77 w77;intro a78 w78 A78 S78
      refine nrm (wp_seq (wp_region_lit (rn A78 S78 (sv (opT_move (v := .int .i64 x18) rfl rfl) rfl rfl (sv (opT_cmp (k := .i64) (m := x18) (n := 0) (c := decide (x18 < 0)) rfl rfl rfl rfl rfl) rfl rfl (enR (L' := [(1, va2), (2, .int .i64 p2s), (3, .pointer (some ⟨g1, 0, none⟩)), (7, v26), (8, .int .i64 s5.2), (9, .int .i64 x18), (28, .bool (decide (x18 < 0)))]) rfl ?_))))))
      clear A78 S78 a78 w78;intro a79 w79 A79 S79
      refine nrm ?_
      rcases two (decide (x18 < 0)) with hb9 | hb9
      · replace hm := ifFe hb9 hm
        refine cnd_false (b := decide (x18 < 0)) A79 rfl rfl hb9 ?_
        refine wp_region_lit (rn A79 S79 (sv (opT_move (v := v26) rfl rfl) rfl rfl (sv (opT_move (v := va2) rfl rfl) rfl rfl (sv (opT_move (v := .int .i64 x18) rfl rfl) rfl rfl ?_))))
        obtain ⟨x19, e29, hm⟩ := bind_some hm
        refine sv (opT_index_hd (xs := p1classes) (i := x18) (n := 1) (Hd.of_rd ra2) Try.underlying34 ti3 rfl rfl rfl (getI_in e29)) rfl rfl (so0 (opT_load_el (S := rInt) (xs := p1classes) (a := x19) (i := x18) (k := 1) (off := 0) (f := fun (x : Int) => x) ra2 e29 Fld.self ti3 rfl rfl rfl rfl rfl) rfl rfl ?_)
        rintro u a80 w80 hf A80 S80
        obtain rfl := lds_one hf
        clear A79 S79 a79 w79
        refine rn A80 S80 (sop (opT_lit_cpy (E := 3) (R := rInt) (S := rInt) [(.int .i64 x19, [.int .i64 x19])] [x19] cpy_int (rd_all ⟨rfl, trivial⟩) Try.underlying34 tz3 (by decide) rfl (by decide) (by decide) rfl rfl rfl rfl (us_all ⟨⟨rfl, rfl⟩, trivial⟩)) (List.Perm.refl _) rfl rfl ?_)
        rintro v34 a81 w81 - A81 (S81 : St I w0 w81 [Ch.own (rSlice 3 rInt) [v34] ([x19]), Ch.blk g1 [.int .i64 p0a.1, va0, va1] 27, Ch.own (rSlice 3 rInt) [v26] s5.1, F])
        clear A80 S80 a80 w80
        obtain ⟨z11, e30, hm⟩ := bind_some hm
        refine rn A81 S81 (sop (opT_app (E := 3) (R := rInt) (s := v26) (u := v34) e30 Try.underlying34 tz3 rfl (by decide) rfl (by decide) rfl rfl rfl) (perm_sel [2, 0, 1, 3] (m := 4) rfl rfl) rfl rfl ?_)
        rintro v35 a82 w82 - A82 (S82 : St I w0 w82 [Ch.own (rSlice 3 rInt) [v35] z11, Ch.blk g1 [.int .i64 p0a.1, va0, va1] 27, F])
        clear A81 S81 a81 w81
        refine rn A82 S82 (sv (opT_assign (v := v35) rfl rfl) rfl rfl (enR (L' := [(1, va2), (2, .int .i64 p2s), (3, .pointer (some ⟨g1, 0, none⟩)), (7, v35), (8, .int .i64 s5.2)]) rfl ?_))
        clear A82 S82 a82 w82;intro a83 w83 A83 S83
        refine nrmB (nrm ?_)
        obtain rfl := Option.some.inj hm
        exact ⟨v35, A83.pick' ⟨rfl, rfl, rfl, rfl, rfl, trivial⟩, St.sel S83 3 [0, 1, 2] rfl rfl⟩
      replace hm := ifTe hb9 hm
      refine cnd_true (b := decide (x18 < 0)) A79 rfl rfl hb9 ?_
      refine wp_region_lit (rn A79 S79 (sv (opT_move (v := v26) rfl rfl) rfl rfl (sop (opT_lit_cpy (E := 3) (R := rInt) (S := rInt) [(.int .i64 (-1), [.int .i64 (-1)])] [-1] cpy_int (rd_all ⟨rfl, trivial⟩) Try.underlying34 tz3 (by decide) rfl (by decide) (by decide) rfl rfl rfl rfl (us_all ⟨⟨rfl, rfl⟩, trivial⟩)) (List.Perm.refl _) rfl rfl ?_)))
      rintro v36 a84 w84 - A84 (S84 : St I w0 w84 [Ch.own (rSlice 3 rInt) [v36] ([-1]), Ch.blk g1 [.int .i64 p0a.1, va0, va1] 27, Ch.own (rSlice 3 rInt) [v26] s5.1, F])
      clear A79 S79 a79 w79
      obtain ⟨z12, e31, hm⟩ := bind_some hm
      refine rn A84 S84 (sop (opT_app (E := 3) (R := rInt) (s := v26) (u := v36) e31 Try.underlying34 tz3 rfl (by decide) rfl (by decide) rfl rfl rfl) (perm_sel [2, 0, 1, 3] (m := 4) rfl rfl) rfl rfl ?_)
      rintro v37 a85 w85 - A85 (S85 : St I w0 w85 [Ch.own (rSlice 3 rInt) [v37] z12, Ch.blk g1 [.int .i64 p0a.1, va0, va1] 27, F])
      clear A84 S84 a84 w84
      refine rn A85 S85 (sv (opT_assign (v := v37) rfl rfl) rfl rfl (enR (L' := [(1, va2), (2, .int .i64 p2s), (3, .pointer (some ⟨g1, 0, none⟩)), (7, v37), (8, .int .i64 s5.2)]) rfl ?_))
      clear A85 S85 a85 w85;intro a86 w86 A86 S86
      refine nrmB (nrm ?_)
      obtain rfl := Option.some.inj hm
      exact ⟨v37, A86.pick' ⟨rfl, rfl, rfl, rfl, rfl, trivial⟩, St.sel S86 3 [0, 1, 2] rfl rfl⟩
    rintro a87 w87 ⟨v32, A87, S87⟩
    refine wp_region_lit (rn A87 S87 (sv (opT_move (v := .int .i64 s5.2) rfl rfl) rfl rfl (sv (opT_add (m := s5.2) (n := 1) rfl rfl rfl) rfl rfl (sv (opT_assign (v := .int .i64 (IntKind.i64.wrap (s5.2 + 1))) rfl rfl) rfl rfl (enR (L' := [(1, va2), (2, .int .i64 p2s), (3, .pointer (some ⟨g1, 0, none⟩)), (7, v32), (8, .int .i64 (IntKind.i64.wrap (s5.2 + 1)))]) rfl ?_)))))
    clear A87 S87 a87 w87;intro a88 w88 A88 S88
    exact nrm (⟨_, (Option.some.inj hm).symm, ⟨v32, A88.pick' ⟨rfl, rfl, rfl, rfl, rfl, trivial⟩, St.sel S88 3 [0, 1, 2] rfl rfl⟩⟩)
  rintro a89 w89 ⟨s6, ho4, v25, A89, S89⟩
  replace hm := loopOut ho4 hc3
  clear ho4 hc3 hl1
  refine nrm (wp_seq (wp_region_lit (rn A89 S89 (sv (opT_move (v := v25) rfl rfl) rfl rfl (sv (opT_assign (v := v25) rfl rfl) rfl rfl (enR (L' := [(6, v25)]) rfl ?_))))))
  clear A89 S89 a89 w89;intro a90 w90 A90 S90
  refine nrm (wp_ret ?_)
  obtain rfl := Option.some.inj hm
  exact ret_1 A90 rfl (res_tmp A90 rfl) ⟨_, rfl, trivial, _, Hp.le.rfl, St.sel (S90) 2 [0, 1] rfl rfl⟩
theorem c_w_eqIntS (p0a : List Int) (p1b : List Int) (r : Bool) (hm : m_w_eqIntS p0a p1b = some r) {I : Hp} {w0 : World} (va0 : Value) (va1 : Value) (ra0 : (rSlice 3 rInt).rd I [va0] p0a) (ra1 : (rSlice 3 rInt).rd I [va1] p1b) : Con Try.prog 69 #[va0, va1] I w0 [] (fun v => v = .bool r) (fun v => []) := by
  refine con_of_wp (n := 26) [(0, va0), (1, va1)] Try.func69 rfl rfl (Nat.le_of_ble_eq_true rfl) (args_all ⟨rfl, rfl, trivial⟩) (fun F w a ha hs => ?_) (fun v => trivial)
  unfold m_w_eqIntS at hm
  refine wp_seq (wp_region_lit (rn ha hs (sv (opT_assign (v := .bool false) rfl rfl) rfl rfl (enR (L' := [(0, va0), (1, va1)]) rfl ?_))))
  clear ha hs a w;intro a1 w1 A1 S1
  refine nrm (wp_seq (wp_seq (wp_region_lit (rn A1 S1 (sv (opT_move (v := va0) rfl rfl) rfl rfl (sv (opT_len_hd (v := va0) (n := p0a.length) (Hd.of_rd ra0) Try.underlying34 rfl rfl) rfl rfl (sv (opT_move (v := va1) rfl rfl) rfl rfl (sv (opT_len_hd (v := va1) (n := p1b.length) (Hd.of_rd ra1) Try.underlying34 rfl rfl) rfl rfl (sv (opT_cmp (k := .i64) (m := (p0a.length : Int)) (n := (p1b.length : Int)) (c := (p0a.length : Int) != (p1b.length : Int)) rfl rfl rfl rfl rfl) rfl rfl (enR (L' := [(0, va0), (1, va1), (10, .bool ((p0a.length : Int) != (p1b.length : Int)))]) rfl ?_))))))))))
  clear A1 S1 a1 w1;intro a2 w2 A2 S2
  refine nrm ?_
  rcases two ((p0a.length : Int) != (p1b.length : Int)) with hb1 | hb1
  · replace hm := ifFe hb1 hm
    refine cnd_false (b := (p0a.length : Int) != (p1b.length : Int)) A2 rfl rfl hb1 ?_
    refine wp_skip (nrm (wp_seq (wp_seq (wp_region_lit (rn A2 S2 (sv (opT_assign (v := .int .i64 0) rfl rfl) rfl rfl (enR (L' := [(0, va0), (1, va1), (5, .int .i64 0)]) rfl ?_)))))))
    clear A2 S2 a2 w2;intro a3 w3 A3 S3
    refine nrm ?_
    obtain ⟨o1, hl1, hc1⟩ := bindL_some hm
    refine wp_cut (fun a w => ∃ s4 : Int, o1 = .brk s4 ∧ Agr 26 a [] ∧ St I w0 w [F]) ?_ ?_
    · refine wp_block (wp_loopM (R := Bool) (S := Int) (fun s3 a w => Agr 26 a [(0, va0), (1, va1), (5, .int .i64 s3)] ∧ St I w0 w [F]) hl1 ?_ ?_)
      · exact ⟨A3.pick' ⟨rfl, rfl, rfl, trivial⟩, St.sel S3 1 [0] rfl rfl⟩
      rintro s3 o2 hm hf1 a10 w10 ⟨A10, S10⟩
      unfold m_w_eqIntS_l0 at hm
      refine wp_seq (wp_seq (wp_region_lit (rn A10 S10 (sv (opT_move (v := .int .i64 s3) rfl rfl) rfl rfl (sv (opT_move (v := va0) rfl rfl) rfl rfl (sv (opT_len_hd (v := va0) (n := p0a.length) (Hd.of_rd ra0) Try.underlying34 rfl rfl) rfl rfl (sv (opT_cmp (k := .i64) (m := s3) (n := (p0a.length : Int)) (c := decide (s3 < (p0a.length : Int))) rfl rfl rfl rfl rfl) rfl rfl (enR (L' := [(0, va0), (1, va1), (5, .int .i64 s3), (14, .bool (decide (s3 < (p0a.length : Int))))]) rfl ?_))))))))
      clear A10 S10 a10 w10;intro a11 w11 A11 S11
      refine nrm ?_
      rcases two (decide (s3 < (p0a.length : Int))) with hb6 | hb6
      · replace hm := ifFe hb6 hm
        refine cnd_false (b := decide (s3 < (p0a.length : Int))) A11 rfl rfl hb6 ?_
        exact wp_exit (thenX (thenX (ex_in (nrm (⟨_, loopBrk hm hf1, ⟨A11.pick' trivial, St.sel S11 1 [0] rfl rfl⟩⟩)))))
      replace hm := ifTe hb6 hm
      refine cnd_true (b := decide (s3 < (p0a.length : Int))) A11 rfl rfl hb6 ?_
      refine wp_skip (nrm (wp_seq (wp_block (wp_seq ?_))))
      obtain ⟨x5, e5, hm⟩ := bind_some hm
      obtain ⟨x6, e6, hm⟩ := bind_some hm
      refine wp_draw (L := [(0, va0), (1, va1), (5, .int .i64 s3), (14, .bool (decide (s3 < (p0a.length : Int))))]) (C := [F]) { ops := [⟨[], [], [], [0], fun | [xo0] => xo0 = va0 | _ => True, [(0, none)]⟩, ⟨[], [], [], [1], fun | [xo1] => xo1 = .int .i64 s3 | _ => True, [(5, none)]⟩, ⟨[], [], [], [2], fun | [xo2] => xo2 = pt va0 (s3.toNat * 1) | _ => True, [(17, some 0), (18, some 1)]⟩, ⟨[], [], [], [3], fun | [xo3] => xo3 = .int .i64 x5 | _ => True, [(19, some 2)]⟩, ⟨[], [], [], [4], fun | [xo4] => xo4 = va1 | _ => True, [(1, none)]⟩, ⟨[], [], [], [5], fun | [xo5] => xo5 = .int .i64 s3 | _ => True, [(5, none)]⟩, ⟨[], [], [], [6], fun | [xo6] => xo6 = pt va1 (s3.toNat * 1) | _ => True, [(21, some 4), (22, some 5)]⟩, ⟨[], [], [], [7], fun | [xo7] => xo7 = .int .i64 x6 | _ => True, [(23, some 6)]⟩, ⟨[], [], [], [8], fun | [xo8] => xo8 = .bool (x5 != x6) | _ => True, [(20, some 3), (24, some 7)]⟩], res := [], base := [], pre := [[], [], [0, 1], [0, 1, 2], [], [], [4, 5], [4, 5, 6], [0, 1, 2, 3, 4, 5, 6, 7]], fin := [(0, none), (1, none), (5, none), (25, some 8)], left := [] } (by kernel_rfl) A11 S11 (perm_sel [0] (m := 1) rfl rfl) (by kernel_rfl) (by kernel_rfl) ?_ ?_
      · exact ⟨Plan.goal_run fun vs hf => ⟨wants_none rfl, OpT.conv (OpT.evs (ev' := evL [(0, va0)]) (opT_move (v := va0) rfl rfl) rfl [.tmp 0] rfl ⟨rfl, trivial⟩) rfl (fun _ h => Eq.trans h rfl) (fun _ => rfl)⟩, Plan.goal_run fun vs hf => ⟨wants_none rfl, OpT.conv (OpT.evs (ev' := evL [(5, .int .i64 s3)]) (opT_move (v := .int .i64 s3) rfl rfl) rfl [.tmp 5] rfl ⟨rfl, trivial⟩) rfl (fun _ h => Eq.trans h rfl) (fun _ => rfl)⟩, Plan.goal_run fun vs hf => ⟨wants_none rfl, OpT.conv (OpT.evs (ev' := evL [(17, va0), (18, .int .i64 s3)]) (opT_index_hd (xs := p0a) (i := s3) (n := 1) (Hd.of_rd ra0) Try.underlying34 ti3 rfl rfl rfl (getI_in e5)) rfl [.tmp 17, .tmp 18] rfl ⟨(hf 0 (mb rfl)), (hf 1 (mb rfl)), trivial⟩) rfl (fun _ h => Eq.trans h rfl) (fun _ => rfl)⟩, Plan.goal_run fun vs hf => ⟨wants_none rfl, OpT.conv (OpT.evs (ev' := evL [(19, pt va0 (s3.toNat * 1))]) (opT_load_el (S := rInt) (xs := p0a) (a := x5) (i := s3) (k := 1) (off := 0) (f := fun (x : Int) => x) ra0 e5 Fld.self ti3 rfl rfl rfl rfl rfl) rfl [.tmp 19] rfl ⟨(hf 2 (mb rfl)), trivial⟩) rfl (fun _ h => lds_one h) (fun _ => rfl)⟩, Plan.goal_run fun vs hf => ⟨wants_none rfl, OpT.conv (OpT.evs (ev' := evL [(1, va1)]) (opT_move (v := va1) rfl rfl) rfl [.tmp 1] rfl ⟨rfl, trivial⟩) rfl (fun _ h => Eq.trans h rfl) (fun _ => rfl)⟩, Plan.goal_run fun vs hf => ⟨wants_none rfl, OpT.conv (OpT.evs (ev' := evL [(5, .int .i64 s3)]) (opT_move (v := .int .i64 s3) rfl rfl) rfl [.tmp 5] rfl ⟨rfl, trivial⟩) rfl (fun _ h => Eq.trans h rfl) (fun _ => rfl)⟩, Plan.goal_run fun vs hf => ⟨wants_none rfl, OpT.conv (OpT.evs (ev' := evL [(21, va1), (22, .int .i64 s3)]) (opT_index_hd (xs := p1b) (i := s3) (n := 1) (Hd.of_rd ra1) Try.underlying34 ti3 rfl rfl rfl (getI_in e6)) rfl [.tmp 21, .tmp 22] rfl ⟨(hf 4 (mb rfl)), (hf 5 (mb rfl)), trivial⟩) rfl (fun _ h => Eq.trans h rfl) (fun _ => rfl)⟩, Plan.goal_run fun vs hf => ⟨wants_none rfl, OpT.conv (OpT.evs (ev' := evL [(23, pt va1 (s3.toNat * 1))]) (opT_load_el (S := rInt) (xs := p1b) (a := x6) (i := s3) (k := 1) (off := 0) (f := fun (x : Int) => x) ra1 e6 Fld.self ti3 rfl rfl rfl rfl rfl) rfl [.tmp 23] rfl ⟨(hf 6 (mb rfl)), trivial⟩) rfl (fun _ h => lds_one h) (fun _ => rfl)⟩, Plan.goal_run fun vs hf => ⟨wants_none rfl, OpT.conv (OpT.evs (ev' := evL [(20, .int .i64 x5), (24, .int .i64 x6)]) (opT_cmp (k := .i64) (m := x5) (n := x6) (c := x5 != x6) rfl rfl rfl rfl rfl) rfl [.tmp 20, .tmp 24] rfl ⟨(hf 3 (mb rfl)), (hf 7 (mb rfl)), trivial⟩) rfl (fun _ h => Eq.trans h rfl) (fun _ => rfl)⟩, trivial⟩
      intro vs a12 w12 hf A12 S12
      clear A11 S11
      replace A12 := A12.pick' (L' := [(0, va0), (1, va1), (5, .int .i64 s3), (25, .bool (x5 != x6))]) ⟨rfl, rfl, rfl, (congrArg some (show _ = _ from (hf 8 (Nat.le_of_ble_eq_true rfl)))), trivial⟩
      replace S12 : St I w0 w12 [F] := S12
      clear hf vs
      refine nrm ?_
      rcases two (x5 != x6) with hb7 | hb7
      · replace hm := ifFe hb7 hm
        refine cnd_false (b := x5 != x6) A12 rfl rfl hb7 ?_
        refine wp_skip (nrmB (nrm (wp_region_lit (rn A12 S12 (sv (opT_move (v := .int .i64 s3) rfl rfl) rfl rfl (sv (opT_add (m := s3) (n := 1) rfl rfl rfl) rfl rfl (sv (opT_assign (v := .int .i64 (IntKind.i64.wrap (s3 + 1))) rfl rfl) rfl rfl (enR (L' := [(0, va0), (1, va1), (5, .int .i64 (IntKind.i64.wrap (s3 + 1)))]) rfl ?_))))))))
        clear A12 S12 a12 w12;intro a13 w13 A13 S13
        exact nrm (⟨_, (Option.some.inj hm).symm, ⟨A13.pick' ⟨rfl, rfl, rfl, trivial⟩, St.sel S13 1 [0] rfl rfl⟩⟩)
      replace hm := ifTe hb7 hm
      refine cnd_true (b := x5 != x6) A12 rfl rfl hb7 ?_
      refine wp_seq (wp_region_lit (rn A12 S12 (sv (opT_assign (v := .bool false) rfl rfl) rfl rfl (enR (L' := [(4, .bool false)]) rfl ?_))))
      clear A12 S12 a12 w12;intro a14 w14 A14 S14
      refine nrm (wp_ret (blkR (thenR (thenR (blkR (thenR (thenR ?_)))))))
      replace hm := loopRet hm hf1 hc1
      obtain rfl := Option.some.inj hm
      exact ret_1 A14 rfl (res_tmp A14 rfl) ⟨_, rfl, rfl, _, Hp.le.rfl, St.sel (S14) 1 [0] rfl rfl⟩
    rintro a15 w15 ⟨s4, ho1, A15, S15⟩
    replace hm := loopOut ho1 hc1
    clear ho1 hc1 hl1
    refine nrm (wp_seq (wp_region_lit (rn A15 S15 (sv (opT_assign (v := .bool true) rfl rfl) rfl rfl (enR (L' := [(4, .bool true)]) rfl ?_)))))
    clear A15 S15 a15 w15;intro a16 w16 A16 S16
    refine nrm (wp_ret ?_)
    obtain rfl := Option.some.inj hm
    exact ret_1 A16 rfl (res_tmp A16 rfl) ⟨_, rfl, rfl, _, Hp.le.rfl, St.sel (S16) 1 [0] rfl rfl⟩
  replace hm := ifTe hb1 hm
  refine cnd_true (b := (p0a.length : Int) != (p1b.length : Int)) A2 rfl rfl hb1 ?_
  refine wp_seq (wp_region_lit (rn A2 S2 (sv (opT_assign (v := .bool false) rfl rfl) rfl rfl (enR (L' := [(4, .bool false)]) rfl ?_))))
  clear A2 S2 a2 w2;intro a17 w17 A17 S17
  refine nrm (wp_ret (thenR ?_))
  obtain rfl := Option.some.inj hm
  exact ret_1 A17 rfl (res_tmp A17 rfl) ⟨_, rfl, rfl, _, Hp.le.rfl, St.sel (S17) 1 [0] rfl rfl⟩
theorem c_s_l13All (r : Int × (List Bool) × (List (List Int))) (hm : m_s_l13All = some r) {I : Hp} {w0 : World} : Con Try.prog 76 #[] I w0 [] (fun v => ∃ h0 h1 : Value, v = .agg #[.int .i64 r.1, h0, h1]) (fun v => [Ch.own (rSlice 4 rBool) [vg v [1]] r.2.1, Ch.own (rSlice 34 (rSlice 3 rInt)) [vg v [2]] r.2.2]) := by
  refine con_of_wp (n := 15) [] Try.func76 rfl rfl (Nat.le_of_ble_eq_true rfl) (args_all trivial) (fun F w a ha hs => ?_) (fun v => ⟨dp_own (dp_slice dp_bool), dp_own (dp_slice (dp_slice dp_int)), trivial⟩)
  unfold m_s_l13All at hm
  refine wp_seq (wp_region_lit (rn ha hs (sop (opT_alloc (l := [.int .i64 0, .slice none 0 0, .slice none 0 0]) tz27 rfl rfl) (List.Perm.refl _) rfl rfl ?_)))
  rintro _ a1 w1 ⟨g1, rfl⟩ A1 (S1 : St I w0 w1 [Ch.blk g1 [.int .i64 0, .slice none 0 0, .slice none 0 0] 27, F])
  clear ha hs a w
  replace A1 := A1.pk (L' := [(0, .pointer (some ⟨g1, 0, none⟩))]) rfl
  refine wpList_nil (nrm (wp_seq (wp_region_lit (rn A1 S1 (sop (opT_lit0 (E := 3) (R := rInt) Try.underlying34 ti3 rfl) (List.Perm.refl _) rfl rfl ?_)))))
  rintro v1 a2 w2 - A2 (S2 : St I w0 w2 [Ch.own (rSlice 3 rInt) [v1] ([] : List Int), Ch.blk g1 [.int .i64 0, .slice none 0 0, .slice none 0 0] 27, F])
  clear A1 S1 a1 w1
  refine rn A2 S2 (sv (opT_assign (v := v1) rfl rfl) rfl rfl (enR (L' := [(0, .pointer (some ⟨g1, 0, none⟩)), (1, v1)]) rfl ?_))
  clear A2 S2 a2 w2;intro a3 w3 A3 S3
  refine nrm (wp_seq (wp_seq (wp_region_lit (rn A3 S3 (sv (opT_assign (v := .int .i64 0) rfl rfl) rfl rfl (enR (L' := [(0, .pointer (some ⟨g1, 0, none⟩)), (1, v1), (2, .int .i64 0)]) rfl ?_))))))
  clear A3 S3 a3 w3;intro a4 w4 A4 S4
  refine nrm ?_
  obtain ⟨o1, hl1, hc1⟩ := bindL_some hm
  refine wp_cut (fun a w => ∃ s4 : (List Int) × Int, o1 = .brk s4 ∧ ∃ v7 : Value, Agr 15 a [(0, .pointer (some ⟨g1, 0, none⟩)), (1, v7)] ∧ St I w0 w [Ch.own (rSlice 3 rInt) [v7] s4.1, Ch.blk g1 [.int .i64 0, .slice none 0 0, .slice none 0 0] 27, F]) ?_ ?_
  · refine wp_block (wp_loopM (R := Int × (List Bool) × (List (List Int))) (S := (List Int) × Int) (fun s3 a w => ∃ v8 : Value, Agr 15 a [(0, .pointer (some ⟨g1, 0, none⟩)), (1, v8), (2, .int .i64 s3.2)] ∧ St I w0 w [Ch.own (rSlice 3 rInt) [v8] s3.1, Ch.blk g1 [.int .i64 0, .slice none 0 0, .slice none 0 0] 27, F]) hl1 ?_ ?_)
    · exact ⟨v1, A4.pick' ⟨rfl, rfl, rfl, trivial⟩, St.sel S4 3 [0, 1, 2] rfl rfl⟩
    rintro s3 o2 hm hf1 a15 w15 ⟨v8, A15, S15⟩
    unfold m_s_l13All_l0 at hm
    refine wp_seq (wp_seq (wp_region_lit (rn A15 S15 (sv (opT_move (v := .int .i64 s3.2) rfl rfl) rfl rfl (sv (opT_cmp (k := .i64) (m := s3.2) (n := 9) (c := decide (s3.2 < 9)) rfl rfl rfl rfl rfl) rfl rfl (enR (L' := [(0, .pointer (some ⟨g1, 0, none⟩)), (1, v8), (2, .int .i64 s3.2), (5, .bool (decide (s3.2 < 9)))]) rfl ?_))))))
    clear A15 S15 a15 w15;intro a16 w16 A16 S16
    refine nrm ?_
    rcases two (decide (s3.2 < 9)) with hb3 | hb3
    · replace hm := ifFe hb3 hm
      refine cnd_false (b := decide (s3.2 < 9)) A16 rfl rfl hb3 ?_
      exact wp_exit (thenX (thenX (ex_in (nrm (⟨_, loopBrk hm hf1, ⟨v8, A16.pick' ⟨rfl, rfl, trivial⟩, St.sel S16 3 [0, 1, 2] rfl rfl⟩⟩)))))
    replace hm := ifTe hb3 hm
    refine cnd_true (b := decide (s3.2 < 9)) A16 rfl rfl hb3 ?_
    refine wp_skip (nrm (wp_seq (wp_block (wp_region_lit (rn A16 S16 (sv (opT_move (v := v8) rfl rfl) rfl rfl (sop (opT_lit_cpy (E := 3) (R := rInt) (S := rInt) [(.int .i64 0, [.int .i64 0])] [0] cpy_int (rd_all ⟨rfl, trivial⟩) Try.underlying34 tz3 (by decide) rfl (by decide) (by decide) rfl rfl rfl rfl (us_all ⟨⟨rfl, rfl⟩, trivial⟩)) (List.Perm.refl _) rfl rfl ?_)))))))
    rintro v9 a17 w17 - A17 (S17 : St I w0 w17 [Ch.own (rSlice 3 rInt) [v9] ([0]), Ch.own (rSlice 3 rInt) [v8] s3.1, Ch.blk g1 [.int .i64 0, .slice none 0 0, .slice none 0 0] 27, F])
    clear A16 S16 a16 w16
    obtain ⟨z3, e3, hm⟩ := bind_some hm
    refine rn A17 S17 (sop (opT_app (E := 3) (R := rInt) (s := v8) (u := v9) e3 Try.underlying34 tz3 rfl (by decide) rfl (by decide) rfl rfl rfl) (perm_sel [1, 0, 2, 3] (m := 4) rfl rfl) rfl rfl ?_)
    rintro v10 a18 w18 - A18 (S18 : St I w0 w18 [Ch.own (rSlice 3 rInt) [v10] z3, Ch.blk g1 [.int .i64 0, .slice none 0 0, .slice none 0 0] 27, F])
    clear A17 S17 a17 w17
    refine rn A18 S18 (sv (opT_assign (v := v10) rfl rfl) rfl rfl (enR (L' := [(0, .pointer (some ⟨g1, 0, none⟩)), (1, v10), (2, .int .i64 s3.2)]) rfl ?_))
    clear A18 S18 a18 w18;intro a19 w19 A19 S19
    refine nrmB (nrm (wp_region_lit (rn A19 S19 (sv (opT_move (v := .int .i64 s3.2) rfl rfl) rfl rfl (sv (opT_add (m := s3.2) (n := 1) rfl rfl rfl) rfl rfl (sv (opT_assign (v := .int .i64 (IntKind.i64.wrap (s3.2 + 1))) rfl rfl) rfl rfl (enR (L' := [(0, .pointer (some ⟨g1, 0, none⟩)), (1, v10), (2, .int .i64 (IntKind.i64.wrap (s3.2 + 1)))]) rfl ?_)))))))
    clear A19 S19 a19 w19;intro a20 w20 A20 S20
    exact nrm (⟨_, (Option.some.inj hm).symm, ⟨v10, A20.pick' ⟨rfl, rfl, rfl, trivial⟩, St.sel S20 3 [0, 1, 2] rfl rfl⟩⟩)
  rintro a21 w21 ⟨s4, ho1, v7, A21, S21⟩
  replace hm := loopOut ho1 hc1
  clear ho1 hc1 hl1
  refine nrm (wp_seq (wp_region_lit (rn A21 S21 (sop (opT_lit_cpy (E := 4) (R := rBool) (S := rBool) [(.bool true, [.bool true])] [true] cpy_bool (rd_all ⟨rfl, trivial⟩) Try.underlying22 tz4 (by decide) rfl (by decide) (by decide) rfl rfl rfl rfl (us_all ⟨⟨rfl, rfl⟩, trivial⟩)) (List.Perm.refl _) rfl rfl ?_))))
  rintro v11 a22 w22 - A22 (S22 : St I w0 w22 [Ch.own (rSlice 4 rBool) [v11] ([true]), Ch.own (rSlice 3 rInt) [v7] s4.1, Ch.blk g1 [.int .i64 0, .slice none 0 0, .slice none 0 0] 27, F])
  clear A21 S21 a21 w21
  refine rn A22 S22 (sv (opT_move (v := v7) rfl rfl) rfl rfl (sop (opT_lit (E := 34) (R := rSlice 3 rInt) [(v7, [v7])] [s4.1] Try.underlying23 tz34 (by decide) rfl (by decide) (by decide) rfl rfl rfl rfl (us_all ⟨⟨(Hd.cells (St.hd S22 1 rfl).1), rfl⟩, trivial⟩)) (perm_front (i := 1) rfl) rfl rfl ?_))
  rintro v12 a23 w23 - A23 (S23 : St I w0 w23 [Ch.own (rSlice 34 (rSlice 3 rInt)) [v12] ([s4.1]), Ch.own (rSlice 4 rBool) [v11] ([true]), Ch.blk g1 [.int .i64 0, .slice none 0 0, .slice none 0 0] 27, F])
  clear A22 S22 a22 w22
  refine rn A23 S23 (sv (opT_build (zl := [.int .i64 0, .slice none 0 0, .slice none 0 0]) (r := [.int .i64 0, v11, v12]) [(1, [v11]), (2, [v12])] tb27 tz27 rfl rfl ⟨rfl, (Hd.cells (St.hd S23 1 rfl).1), rfl, (Hd.cells (St.hd S23 0 rfl).1), trivial⟩ rfl) rfl rfl (sop (opT_store_blk (g := g1) (off := 0) (l := [.int .i64 0, .slice none 0 0, .slice none 0 0]) (d := [.int .i64 0, v11, v12]) (E := 27) (u := .agg #[.int .i64 0, v11, v12]) ti27 rfl rfl rfl rfl rfl (allC rfl (allC (Hd.one (St.hd S23 1 rfl).1) (allC (Hd.one (St.hd S23 0 rfl).1) allN))) (Nat.le_of_ble_eq_true rfl)) (perm_front (i := 2) rfl) rfl rfl ?_))
  rintro _ a24 w24 - A24 (S24 : St I w0 w24 [Ch.blk g1 [.int .i64 0, v11, v12] 27, Ch.own (rSlice 34 (rSlice 3 rInt)) [v12] ([s4.1]), Ch.own (rSlice 4 rBool) [v11] ([true]), F])
  clear A23 S23 a23 w23
  replace A24 := A24.pk (L' := [(0, .pointer (some ⟨g1, 0, none⟩))]) rfl
  refine wpList_nil (nrm (wp_ret ?_))
  obtain rfl := Option.some.inj hm
  exact ret_1 A24 rfl (res_cell (g := g1) A24 rfl S24 0 rfl ti27 rfl) ⟨_, rfl, ⟨_, _, rfl⟩, _, Hp.le.rfl, St.sel (S24) 4 [2, 1, 3] rfl rfl⟩
theorem c_g_slices_IndexFunc_S_S_int_S_int (p0s : List (List Int)) (p1f : (List Int) → Option Bool) (r : Int) (hm : m_g_slices_IndexFunc_S_S_int_S_int p0s p1f = some r) {I : Hp} {w0 : World} (va0 : Value) (va1 : Value) (ra0 : (rSlice 34 (rSlice 3 rInt)).rd I [va0] p0s) (ra1 : fn203 w0 I va1 p1f) : Con Try.prog 172 #[va0, va1] I w0 [] (fun v => v = .int .i64 r) (fun v => []) := by
  refine con_of_wp (n := 19) [(0, va0), (1, va1)] Try.func172 rfl rfl (Nat.le_of_ble_eq_true rfl) (args_all ⟨rfl, rfl, trivial⟩) (fun F w a ha hs => ?_) (fun v => trivial)
  unfold m_g_slices_IndexFunc_S_S_int_S_int at hm
  refine wp_seq (wp_region_lit (rn ha hs (sv (opT_assign (v := .int .i64 0) rfl rfl) rfl rfl (enR (L' := [(0, va0), (1, va1)]) rfl ?_))))
  clear ha hs a w;intro a1 w1 A1 S1
  refine nrm (wp_seq (wp_seq (wp_region_lit (rn A1 S1 (sv (opT_move (v := va0) rfl rfl) rfl rfl (sv (opT_len_hd (v := va0) (n := p0s.length) (Hd.of_rd ra0) Try.underlying23 rfl rfl) rfl rfl (sv (opT_move (v := .int .i64 0) rfl rfl) rfl rfl (enR (L' := [(0, va0), (1, va1), (7, .int .i64 (p0s.length : Int)), (8, .int .i64 0)]) rfl ?_))))))))
  clear A1 S1 a1 w1;intro a2 w2 A2 S2
  refine nrm ?_
  obtain ⟨o1, hl1, hc1⟩ := bindL_some hm
  refine wp_cut (fun a w => ∃ s4 : Int, o1 = .brk s4 ∧ Agr 19 a [] ∧ St I w0 w [F]) ?_ ?_
  · refine wp_block (wp_loopM (R := Int) (S := Int) (fun s3 a w => Agr 19 a [(0, va0), (1, va1), (7, .int .i64 (p0s.length : Int)), (8, .int .i64 s3)] ∧ St I w0 w [F]) hl1 ?_ ?_)
    · exact ⟨A2.pick' ⟨rfl, rfl, rfl, rfl, trivial⟩, St.sel S2 1 [0] rfl rfl⟩
    rintro s3 o2 hm hf1 a15 w15 ⟨A15, S15⟩
    unfold m_g_slices_IndexFunc_S_S_int_S_int_l0 at hm
    refine wp_seq (wp_region_lit (rn A15 S15 (sv (opT_cmp (k := .i64) (m := s3) (n := (p0s.length : Int)) (c := decide (s3 < (p0s.length : Int))) rfl rfl rfl rfl rfl) rfl rfl (enR (L' := [(0, va0), (1, va1), (7, .int .i64 (p0s.length : Int)), (8, .int .i64 s3), (9, .bool (decide (s3 < (p0s.length : Int))))]) rfl ?_))))
    clear A15 S15 a15 w15;intro a16 w16 A16 S16
    refine nrm (wp_seq ?_)
    rcases two (decide (s3 < (p0s.length : Int))) with hb5 | hb5
    · replace hm := ifFe hb5 hm
      refine cnd_false (b := decide (s3 < (p0s.length : Int))) A16 rfl rfl hb5 ?_
      exact wp_exit (thenX (thenX (ex_in (nrm (⟨_, loopBrk hm hf1, ⟨A16.pick' trivial, St.sel S16 1 [0] rfl rfl⟩⟩)))))
    replace hm := ifTe hb5 hm
    refine cnd_true (b := decide (s3 < (p0s.length : Int))) A16 rfl rfl hb5 ?_
    refine wp_skip (nrm (wp_seq (wp_block (wp_seq (wp_region_lit (rn A16 S16 (sv (opT_move (v := .int .i64 s3) rfl rfl) rfl rfl (sv (opT_assign (v := .int .i64 s3) rfl rfl) rfl rfl (enR (L' := [(0, va0), (1, va1), (5, .int .i64 s3), (7, .int .i64 (p0s.length : Int)), (8, .int .i64 s3)]) rfl ?_)))))))))
    clear A16 S16 a16 w16;intro a17 w17 A17 S17
    refine nrm (wp_seq (wp_region_lit (rn A17 S17 (sv (opT_move (v := va1) rfl rfl) rfl rfl (sv (opT_move (v := va0) rfl rfl) rfl rfl (sv (opT_move (v := .int .i64 s3) rfl rfl) rfl rfl ?_))))))
    obtain ⟨x3, e5, hm⟩ := bind_some hm
    refine sv (opT_index_hd (xs := p0s) (i := s3) (n := 1) (Hd.of_rd ra0) Try.underlying23 ti34 rfl rfl rfl (getI_in e5)) rfl rfl (so0 (opT_load_el (S := rSlice 3 rInt) (xs := p0s) (a := x3) (i := s3) (k := 1) (off := 0) (f := fun (x : List Int) => x) ra0 e5 Fld.self ti34 rfl rfl rfl rfl rfl) rfl rfl ?_)
    rintro v3 a18 w18 hf A18 S18
    have r5 := lds_sl hf
    clear hf
    clear A17 S17 a17 w17
    obtain ⟨r6, e6, hm⟩ := bind_some hm
    refine rn A18 S18 (so0 (opT_call_clo (v := va1) (args := [v3]) (ra1.2 _ Hp.le.rfl x3 _ e6 v3 r5) rfl rfl rfl) rfl rfl ?_)
    rintro u a19 w19 hf A19 S19
    obtain rfl := Eq.symm hf
    clear A18 S18 a18 w18
    replace A19 := A19.pk (L' := [(0, va0), (1, va1), (5, .int .i64 s3), (7, .int .i64 (p0s.length : Int)), (8, .int .i64 s3), (16, .bool r6)]) rfl
    refine wpList_nil (nrm ?_)
    rcases two (r6) with hb6 | hb6
    · replace hm := ifFe hb6 hm
      refine cnd_false (b := r6) A19 rfl rfl hb6 ?_
      refine wp_skip (nrmB (nrm (wp_region_lit (rn A19 S19 (sv (opT_add (m := s3) (n := 1) rfl rfl rfl) rfl rfl (sv (opT_move (v := .int .i64 (IntKind.i64.wrap (s3 + 1))) rfl rfl) rfl rfl (enR (L' := [(0, va0), (1, va1), (7, .int .i64 (p0s.length : Int)), (8, .int .i64 (IntKind.i64.wrap (s3 + 1)))]) rfl ?_)))))))
      clear A19 S19 a19 w19;intro a20 w20 A20 S20
      exact nrm (⟨_, (Option.some.inj hm).symm, ⟨A20.pick' ⟨rfl, rfl, rfl, rfl, trivial⟩, St.sel S20 1 [0] rfl rfl⟩⟩)
    replace hm := ifTe hb6 hm
    refine cnd_true (b := r6) A19 rfl rfl hb6 ?_
    refine wp_seq (wp_region_lit (rn A19 S19 (sv (opT_move (v := .int .i64 s3) rfl rfl) rfl rfl (sv (opT_assign (v := .int .i64 s3) rfl rfl) rfl rfl (enR (L' := [(4, .int .i64 s3)]) rfl ?_)))))
    clear A19 S19 a19 w19;intro a21 w21 A21 S21
    refine nrm (wp_ret (blkR (thenR (thenR (blkR (thenR (thenR ?_)))))))
    replace hm := loopRet hm hf1 hc1
    obtain rfl := Option.some.inj hm
    exact ret_1 A21 rfl (res_tmp A21 rfl) ⟨_, rfl, rfl, _, Hp.le.rfl, St.sel (S21) 1 [0] rfl rfl⟩
  rintro a22 w22 ⟨s4, ho1, A22, S22⟩
  replace hm := loopOut ho1 hc1
  clear ho1 hc1 hl1
  refine nrm (wp_seq (wp_region_lit (rn A22 S22 (sv (opT_assign (v := .int .i64 (-1)) rfl rfl) rfl rfl (enR (L' := [(4, .int .i64 (-1))]) rfl ?_)))))
  clear A22 S22 a22 w22;intro a23 w23 A23 S23
  refine nrm (wp_ret ?_)
  obtain rfl := Option.some.inj hm
  exact ret_1 A23 rfl (res_tmp A23 rfl) ⟨_, rfl, rfl, _, Hp.le.rfl, St.sel (S23) 1 [0] rfl rfl⟩
theorem c_g_slices_Index_S_int_int (p0s : List Int) (p1v : Int) (r : Int) (hm : m_g_slices_Index_S_int_int p0s p1v = some r) {I : Hp} {w0 : World} (va0 : Value) (ra0 : (rSlice 3 rInt).rd I [va0] p0s) : Con Try.prog 112 #[va0, .int .i64 p1v] I w0 [] (fun v => v = .int .i64 r) (fun v => []) := by
  refine con_of_wp (n := 19) [(0, va0), (1, .int .i64 p1v)] Try.func112 rfl rfl (Nat.le_of_ble_eq_true rfl) (args_all ⟨rfl, rfl, trivial⟩) (fun F w a ha hs => ?_) (fun v => trivial)
  unfold m_g_slices_Index_S_int_int at hm
  refine wp_seq (wp_region_lit (rn ha hs (sv (opT_assign (v := .int .i64 0) rfl rfl) rfl rfl (enR (L' := [(0, va0), (1, .int .i64 p1v)]) rfl ?_))))
  clear ha hs a w;intro a1 w1 A1 S1
  refine nrm (wp_seq (wp_seq (wp_region_lit (rn A1 S1 (sv (opT_move (v := va0) rfl rfl) rfl rfl (sv (opT_len_hd (v := va0) (n := p0s.length) (Hd.of_rd ra0) Try.underlying34 rfl rfl) rfl rfl (sv (opT_move (v := .int .i64 0) rfl rfl) rfl rfl (enR (L' := [(0, va0), (1, .int .i64 p1v), (7, .int .i64 (p0s.length : Int)), (8, .int .i64 0)]) rfl ?_))))))))
  clear A1 S1 a1 w1;intro a2 w2 A2 S2
  refine nrm ?_
  obtain ⟨o1, hl1, hc1⟩ := bindL_some hm
  refine wp_cut (fun a w => ∃ s4 : Int, o1 = .brk s4 ∧ Agr 19 a [] ∧ St I w0 w [F]) ?_ ?_
  · refine wp_block (wp_loopM (R := Int) (S := Int) (fun s3 a w => Agr 19 a [(0, va0), (1, .int .i64 p1v), (7, .int .i64 (p0s.length : Int)), (8, .int .i64 s3)] ∧ St I w0 w [F]) hl1 ?_ ?_)
    · exact ⟨A2.pick' ⟨rfl, rfl, rfl, rfl, trivial⟩, St.sel S2 1 [0] rfl rfl⟩
    rintro s3 o2 hm hf1 a15 w15 ⟨A15, S15⟩
    unfold m_g_slices_Index_S_int_int_l0 at hm
    refine wp_seq (wp_region_lit (rn A15 S15 (sv (opT_cmp (k := .i64) (m := s3) (n := (p0s.length : Int)) (c := decide (s3 < (p0s.length : Int))) rfl rfl rfl rfl rfl) rfl rfl (enR (L' := [(0, va0), (1, .int .i64 p1v), (7, .int .i64 (p0s.length : Int)), (8, .int .i64 s3), (9, .bool (decide (s3 < (p0s.length : Int))))]) rfl ?_))))
    clear A15 S15 a15 w15;intro a16 w16 A16 S16
    refine nrm (wp_seq ?_)
    rcases two (decide (s3 < (p0s.length : Int))) with hb5 | hb5
    · replace hm := ifFe hb5 hm
      refine cnd_false (b := decide (s3 < (p0s.length : Int))) A16 rfl rfl hb5 ?_
      exact wp_exit (thenX (thenX (ex_in (nrm (⟨_, loopBrk hm hf1, ⟨A16.pick' trivial, St.sel S16 1 [0] rfl rfl⟩⟩)))))
    replace hm := ifTe hb5 hm
    refine cnd_true (b := decide (s3 < (p0s.length : Int))) A16 rfl rfl hb5 ?_
    refine wp_skip (nrm (wp_seq (wp_block (wp_seq (wp_region_lit (rn A16 S16 (sv (opT_move (v := .int .i64 s3) rfl rfl) rfl rfl (sv (opT_assign (v := .int .i64 s3) rfl rfl) rfl rfl (enR (L' := [(0, va0), (1, .int .i64 p1v), (5, .int .i64 s3), (7, .int .i64 (p0s.length : Int)), (8, .int .i64 s3)]) rfl ?_)))))))))
    clear A16 S16 a16 w16;intro a17 w17 A17 S17
    refine nrm (wp_seq (wp_region_lit (rn A17 S17 (sv (opT_move (v := .int .i64 p1v) rfl rfl) rfl rfl (sv (opT_move (v := va0) rfl rfl) rfl rfl (sv (opT_move (v := .int .i64 s3) rfl rfl) rfl rfl ?_))))))
    obtain ⟨x3, e3, hm⟩ := bind_some hm
    refine sv (opT_index_hd (xs := p0s) (i := s3) (n := 1) (Hd.of_rd ra0) Try.underlying34 ti3 rfl rfl rfl (getI_in e3)) rfl rfl (so0 (opT_load_el (S := rInt) (xs := p0s) (a := x3) (i := s3) (k := 1) (off := 0) (f := fun (x : Int) => x) ra0 e3 Fld.self ti3 rfl rfl rfl rfl rfl) rfl rfl ?_)
    rintro u a18 w18 hf A18 S18
    obtain rfl := lds_one hf
    clear A17 S17 a17 w17
    refine rn A18 S18 (sv (opT_cmp (k := .i64) (m := p1v) (n := x3) (c := p1v == x3) rfl rfl rfl rfl rfl) rfl rfl (enR (L' := [(0, va0), (1, .int .i64 p1v), (5, .int .i64 s3), (7, .int .i64 (p0s.length : Int)), (8, .int .i64 s3), (16, .bool (p1v == x3))]) rfl ?_))
    clear A18 S18 a18 w18;intro a19 w19 A19 S19
    refine nrm ?_
    rcases two (p1v == x3) with hb6 | hb6
    · replace hm := ifFe hb6 hm
      refine cnd_false (b := p1v == x3) A19 rfl rfl hb6 ?_
      refine wp_skip (nrmB (nrm (wp_region_lit (rn A19 S19 (sv (opT_add (m := s3) (n := 1) rfl rfl rfl) rfl rfl (sv (opT_move (v := .int .i64 (IntKind.i64.wrap (s3 + 1))) rfl rfl) rfl rfl (enR (L' := [(0, va0), (1, .int .i64 p1v), (7, .int .i64 (p0s.length : Int)), (8, .int .i64 (IntKind.i64.wrap (s3 + 1)))]) rfl ?_)))))))
      clear A19 S19 a19 w19;intro a20 w20 A20 S20
      exact nrm (⟨_, (Option.some.inj hm).symm, ⟨A20.pick' ⟨rfl, rfl, rfl, rfl, trivial⟩, St.sel S20 1 [0] rfl rfl⟩⟩)
    replace hm := ifTe hb6 hm
    refine cnd_true (b := p1v == x3) A19 rfl rfl hb6 ?_
    refine wp_seq (wp_region_lit (rn A19 S19 (sv (opT_move (v := .int .i64 s3) rfl rfl) rfl rfl (sv (opT_assign (v := .int .i64 s3) rfl rfl) rfl rfl (enR (L' := [(4, .int .i64 s3)]) rfl ?_)))))
    clear A19 S19 a19 w19;intro a21 w21 A21 S21
    refine nrm (wp_ret (blkR (thenR (thenR (blkR (thenR (thenR ?_)))))))
    replace hm := loopRet hm hf1 hc1
    obtain rfl := Option.some.inj hm
    exact ret_1 A21 rfl (res_tmp A21 rfl) ⟨_, rfl, rfl, _, Hp.le.rfl, St.sel (S21) 1 [0] rfl rfl⟩
  rintro a22 w22 ⟨s4, ho1, A22, S22⟩
  replace hm := loopOut ho1 hc1
  clear ho1 hc1 hl1
  refine nrm (wp_seq (wp_region_lit (rn A22 S22 (sv (opT_assign (v := .int .i64 (-1)) rfl rfl) rfl rfl (enR (L' := [(4, .int .i64 (-1))]) rfl ?_)))))
  clear A22 S22 a22 w22;intro a23 w23 A23 S23
  refine nrm (wp_ret ?_)
  obtain rfl := Option.some.inj hm
  exact ret_1 A23 rfl (res_tmp A23 rfl) ⟨_, rfl, rfl, _, Hp.le.rfl, St.sel (S23) 1 [0] rfl rfl⟩
theorem c_s_l11Find (p0l : List Int) (p1x : Int) (r : Int) (hm : m_s_l11Find p0l p1x = some r) {I : Hp} {w0 : World} (va0 : Value) (ra0 : (rSlice 3 rInt).rd I [va0] p0l) : Con Try.prog 94 #[va0, .int .i64 p1x] I w0 [] (fun v => v = .int .i64 r) (fun v => []) := by
  refine con_of_wp (n := 19) [(0, va0), (1, .int .i64 p1x)] Try.func94 rfl rfl (Nat.le_of_ble_eq_true rfl) (args_all ⟨rfl, rfl, trivial⟩) (fun F w a ha hs => ?_) (fun v => trivial)
  unfold m_s_l11Find at hm
  refine wp_seq (wp_region_lit (rn ha hs (sv (opT_assign (v := .int .i64 0) rfl rfl) rfl rfl (enR (L' := [(0, va0), (1, .int .i64 p1x)]) rfl ?_))))
  clear ha hs a w;intro a1 w1 A1 S1
  refine nrm (wp_seq (wp_seq (wp_region_lit (rn A1 S1 (sv (opT_assign (v := .int .i64 0) rfl rfl) rfl rfl (enR (L' := [(0, va0), (1, .int .i64 p1x), (5, .int .i64 0)]) rfl ?_))))))
  clear A1 S1 a1 w1;intro a2 w2 A2 S2
  refine nrm ?_
  obtain ⟨o1, hl1, hc1⟩ := bindL_some hm
  refine wp_cut (fun a w => ∃ s4 : Int, o1 = .brk s4 ∧ Agr 19 a [] ∧ St I w0 w [F]) ?_ ?_
  · refine wp_block (wp_loopM (R := Int) (S := Int) (fun s3 a w => Agr 19 a [(0, va0), (1, .int .i64 p1x), (5, .int .i64 s3)] ∧ St I w0 w [F]) hl1 ?_ ?_)
    · exact ⟨A2.pick' ⟨rfl, rfl, rfl, trivial⟩, St.sel S2 1 [0] rfl rfl⟩
    rintro s3 o2 hm hf1 a13 w13 ⟨A13, S13⟩
    unfold m_s_l11Find_l0 at hm
    refine wp_seq (wp_seq (wp_region_lit (rn A13 S13 (sv (opT_move (v := .int .i64 s3) rfl rfl) rfl rfl (sv (opT_move (v := va0) rfl rfl) rfl rfl (sv (opT_len_hd (v := va0) (n := p0l.length) (Hd.of_rd ra0) Try.underlying34 rfl rfl) rfl rfl (sv (opT_cmp (k := .i64) (m := s3) (n := (p0l.length : Int)) (c := decide (s3 < (p0l.length : Int))) rfl rfl rfl rfl rfl) rfl rfl (enR (L' := [(0, va0), (1, .int .i64 p1x), (5, .int .i64 s3), (9, .bool (decide (s3 < (p0l.length : Int))))]) rfl ?_))))))))
    clear A13 S13 a13 w13;intro a14 w14 A14 S14
    refine nrm ?_
    rcases two (decide (s3 < (p0l.length : Int))) with hb5 | hb5
    · replace hm := ifFe hb5 hm
      refine cnd_false (b := decide (s3 < (p0l.length : Int))) A14 rfl rfl hb5 ?_
      exact wp_exit (thenX (thenX (ex_in (nrm (⟨_, loopBrk hm hf1, ⟨A14.pick' trivial, St.sel S14 1 [0] rfl rfl⟩⟩)))))
    replace hm := ifTe hb5 hm
    refine cnd_true (b := decide (s3 < (p0l.length : Int))) A14 rfl rfl hb5 ?_
    refine wp_skip (nrm (wp_seq (wp_block (wp_seq (wp_region_lit (rn A14 S14 (sv (opT_move (v := va0) rfl rfl) rfl rfl (sv (opT_move (v := .int .i64 s3) rfl rfl) rfl rfl ?_))))))))
    obtain ⟨x3, e3, hm⟩ := bind_some hm
    refine sv (opT_index_hd (xs := p0l) (i := s3) (n := 1) (Hd.of_rd ra0) Try.underlying34 ti3 rfl rfl rfl (getI_in e3)) rfl rfl (so0 (opT_load_el (S := rInt) (xs := p0l) (a := x3) (i := s3) (k := 1) (off := 0) (f := fun (x : Int) => x) ra0 e3 Fld.self ti3 rfl rfl rfl rfl rfl) rfl rfl ?_)
    rintro u a15 w15 hf A15 S15
    obtain rfl := lds_one hf
    clear A14 S14 a14 w14
    refine rn A15 S15 (sv (opT_move (v := .int .i64 p1x) rfl rfl) rfl rfl (sv (opT_cmp (k := .i64) (m := x3) (n := p1x) (c := x3 == p1x) rfl rfl rfl rfl rfl) rfl rfl (enR (L' := [(0, va0), (1, .int .i64 p1x), (5, .int .i64 s3), (17, .bool (x3 == p1x))]) rfl ?_)))
    clear A15 S15 a15 w15;intro a16 w16 A16 S16
    refine nrm ?_
    rcases two (x3 == p1x) with hb6 | hb6
    · replace hm := ifFe hb6 hm
      refine cnd_false (b := x3 == p1x) A16 rfl rfl hb6 ?_
      refine wp_skip (nrmB (nrm (wp_region_lit (rn A16 S16 (sv (opT_move (v := .int .i64 s3) rfl rfl) rfl rfl (sv (opT_add (m := s3) (n := 1) rfl rfl rfl) rfl rfl (sv (opT_assign (v := .int .i64 (IntKind.i64.wrap (s3 + 1))) rfl rfl) rfl rfl (enR (L' := [(0, va0), (1, .int .i64 p1x), (5, .int .i64 (IntKind.i64.wrap (s3 + 1)))]) rfl ?_))))))))
      clear A16 S16 a16 w16;intro a17 w17 A17 S17
      exact nrm (⟨_, (Option.some.inj hm).symm, ⟨A17.pick' ⟨rfl, rfl, rfl, trivial⟩, St.sel S17 1 [0] rfl rfl⟩⟩)
    replace hm := ifTe hb6 hm
    refine cnd_true (b := x3 == p1x) A16 rfl rfl hb6 ?_
    refine wp_seq (wp_region_lit (rn A16 S16 (sv (opT_move (v := .int .i64 s3) rfl rfl) rfl rfl (sv (opT_assign (v := .int .i64 s3) rfl rfl) rfl rfl (enR (L' := [(4, .int .i64 s3)]) rfl ?_)))))
    clear A16 S16 a16 w16;intro a18 w18 A18 S18
    refine nrm (wp_ret (blkR (thenR (thenR (blkR (thenR (thenR ?_)))))))
    replace hm := loopRet hm hf1 hc1
    obtain rfl := Option.some.inj hm
    exact ret_1 A18 rfl (res_tmp A18 rfl) ⟨_, rfl, rfl, _, Hp.le.rfl, St.sel (S18) 1 [0] rfl rfl⟩
  rintro a19 w19 ⟨s4, ho1, A19, S19⟩
  replace hm := loopOut ho1 hc1
  clear ho1 hc1 hl1
  refine nrm (wp_seq (wp_region_lit (rn A19 S19 (sv (opT_assign (v := .int .i64 (-1)) rfl rfl) rfl rfl (enR (L' := [(4, .int .i64 (-1))]) rfl ?_)))))
  clear A19 S19 a19 w19;intro a20 w20 A20 S20
  refine nrm (wp_ret ?_)
  obtain rfl := Option.some.inj hm
  exact ret_1 A20 rfl (res_tmp A20 rfl) ⟨_, rfl, rfl, _, Hp.le.rfl, St.sel (S20) 1 [0] rfl rfl⟩
theorem c_w_szBoolS (p0a : List Bool) (p1left : Int) (r : Int) (hm : m_w_szBoolS p0a p1left = some r) {I : Hp} {w0 : World} (va0 : Value) (ra0 : (rSlice 4 rBool).rd I [va0] p0a) : Con Try.prog 44 #[va0, .int .i64 p1left] I w0 [] (fun v => v = .int .i64 r) (fun v => []) := by
  refine con_of_wp (n := 12) [(0, va0), (1, .int .i64 p1left)] Try.func44 rfl rfl (Nat.le_of_ble_eq_true rfl) (args_all ⟨rfl, rfl, trivial⟩) (fun F w a ha hs => ?_) (fun v => trivial)
  unfold m_w_szBoolS at hm
  refine wp_seq (wp_region_lit (rn ha hs (sv (opT_assign (v := .int .i64 0) rfl rfl) rfl rfl (enR (L' := [(0, va0), (1, .int .i64 p1left)]) rfl ?_))))
  clear ha hs a w;intro a1 w1 A1 S1
  refine nrm (wp_seq (wp_region_lit (rn A1 S1 (sv (opT_move (v := .int .i64 p1left) rfl rfl) rfl rfl (sv (opT_move (v := va0) rfl rfl) rfl rfl (sv (opT_len_hd (v := va0) (n := p0a.length) (Hd.of_rd ra0) Try.underlying22 rfl rfl) rfl rfl (sv (opT_sub (m := p1left) (n := (p0a.length : Int)) rfl rfl rfl) rfl rfl (sv (opT_assign (v := .int .i64 (IntKind.i64.wrap (p1left - (p0a.length : Int)))) rfl rfl) rfl rfl (enR (L' := [(1, .int .i64 (IntKind.i64.wrap (p1left - (p0a.length : Int))))]) rfl ?_)))))))))
  clear A1 S1 a1 w1;intro a2 w2 A2 S2
  refine nrm (wp_seq (wp_seq (wp_region_lit (rn A2 S2 (sv (opT_move (v := .int .i64 (IntKind.i64.wrap (p1left - (p0a.length : Int)))) rfl rfl) rfl rfl (sv (opT_cmp (k := .i64) (m := IntKind.i64.wrap (p1left - (p0a.length : Int))) (n := 0) (c := decide (IntKind.i64.wrap (p1left - (p0a.length : Int)) < 0)) rfl rfl rfl rfl rfl) rfl rfl (enR (L' := [(1, .int .i64 (IntKind.i64.wrap (p1left - (p0a.length : Int)))), (10, .bool (decide (IntKind.i64.wrap (p1left - (p0a.length : Int)) < 0)))]) rfl ?_)))))))
  clear A2 S2 a2 w2;intro a3 w3 A3 S3
  refine nrm ?_
  rcases two (decide (IntKind.i64.wrap (p1left - (p0a.length : Int)) < 0)) with hb1 | hb1
  · replace hm := ifFe hb1 hm
    refine cnd_false (b := decide (IntKind.i64.wrap (p1left - (p0a.length : Int)) < 0)) A3 rfl rfl hb1 ?_
    refine wp_skip (nrm (wp_seq (wp_region_lit (rn A3 S3 (sv (opT_move (v := .int .i64 (IntKind.i64.wrap (p1left - (p0a.length : Int)))) rfl rfl) rfl rfl (sv (opT_assign (v := .int .i64 (IntKind.i64.wrap (p1left - (p0a.length : Int)))) rfl rfl) rfl rfl (enR (L' := [(4, .int .i64 (IntKind.i64.wrap (p1left - (p0a.length : Int))))]) rfl ?_)))))))
    clear A3 S3 a3 w3;intro a4 w4 A4 S4
    refine nrm (wp_ret ?_)
    obtain rfl := Option.some.inj hm
    exact ret_1 A4 rfl (res_tmp A4 rfl) ⟨_, rfl, rfl, _, Hp.le.rfl, St.sel (S4) 1 [0] rfl rfl⟩
  replace hm := ifTe hb1 hm
  refine cnd_true (b := decide (IntKind.i64.wrap (p1left - (p0a.length : Int)) < 0)) A3 rfl rfl hb1 ?_
  refine wp_seq (wp_region_lit (rn A3 S3 (sv (opT_assign (v := .int .i64 (-1)) rfl rfl) rfl rfl (enR (L' := [(4, .int .i64 (-1))]) rfl ?_))))
  clear A3 S3 a3 w3;intro a5 w5 A5 S5
  refine nrm (wp_ret (thenR ?_))
  obtain rfl := Option.some.inj hm
  exact ret_1 A5 rfl (res_tmp A5 rfl) ⟨_, rfl, rfl, _, Hp.le.rfl, St.sel (S5) 1 [0] rfl rfl⟩
theorem c_i_within (p0n : Int) (p1a : Int) (p2b : Int) (r : Bool) (hm : m_i_within p0n p1a p2b = some r) {I : Hp} {w0 : World} : Con Try.prog 95 #[.int .i64 p0n, .int .i64 p1a, .int .i64 p2b] I w0 [] (fun v => v = .bool r) (fun v => []) := by
  refine con_of_wp (n := 15) [(0, .int .i64 p0n), (1, .int .i64 p1a), (2, .int .i64 p2b)] Try.func95 rfl rfl (Nat.le_of_ble_eq_true rfl) (args_all ⟨rfl, rfl, rfl, trivial⟩) (fun F w a ha hs => ?_) (fun v => trivial)
  unfold m_i_within at hm
  refine wp_seq (wp_region_lit (rn ha hs (sv (opT_assign (v := .bool false) rfl rfl) rfl rfl (enR (L' := [(0, .int .i64 p0n), (1, .int .i64 p1a), (2, .int .i64 p2b)]) rfl ?_))))
  clear ha hs a w;intro a1 w1 A1 S1
  refine nrm (wp_seq (wp_region_lit (rn A1 S1 (sv (opT_move (v := .int .i64 p0n) rfl rfl) rfl rfl (sv (opT_move (v := .int .i64 p1a) rfl rfl) rfl rfl (sv (opT_cmp (k := .i64) (m := p0n) (n := p1a) (c := decide (p0n ≥ p1a)) rfl rfl rfl rfl rfl) rfl rfl (sv (opT_move (v := .bool (decide (p0n ≥ p1a))) rfl rfl) rfl rfl ?_)))))))
  rcases two (decide (p0n ≥ p1a)) with hb1 | hb1
  · replace hm := ifFe hb1 hm
    refine ssk (g := 3) (d := 10) (want := true) (b := decide (p0n ≥ p1a)) rfl rfl rfl hb1 rfl (ssk (g := 3) (d := 10) (want := true) (b := decide (p0n ≥ p1a)) rfl rfl rfl hb1 rfl (ssk (g := 3) (d := 10) (want := true) (b := decide (p0n ≥ p1a)) rfl rfl rfl hb1 rfl (sv (opT_pick (b := decide (p0n ≥ p1a)) (v := .bool false) rfl rfl (ifF hb1)) rfl rfl (sv (opT_assign (v := .bool false) rfl rfl) rfl rfl (enR (L' := [(6, .bool false)]) rfl ?_)))))
    clear A1 S1 a1 w1;intro a2 w2 A2 S2
    refine nrm (wp_ret ?_)
    obtain rfl := Option.some.inj hm
    exact ret_1 A2 rfl (res_tmp A2 rfl) ⟨_, rfl, rfl, _, Hp.le.rfl, St.sel (S2) 1 [0] rfl rfl⟩
  replace hm := ifTe hb1 hm
  refine svg (g := 3) (d := 10) (want := true) (b := decide (p0n ≥ p1a)) rfl rfl rfl hb1 (opT_move (v := .int .i64 p0n) rfl rfl) rfl (svg (g := 3) (d := 10) (want := true) (b := decide (p0n ≥ p1a)) rfl rfl rfl hb1 (opT_move (v := .int .i64 p2b) rfl rfl) rfl (svg (g := 3) (d := 10) (want := true) (b := decide (p0n ≥ p1a)) rfl rfl rfl hb1 (opT_cmp (k := .i64) (m := p0n) (n := p2b) (c := decide (p0n ≤ p2b)) rfl rfl rfl rfl rfl) rfl (sv (opT_pick (b := decide (p0n ≥ p1a)) (v := .bool (decide (p0n ≤ p2b))) rfl rfl (ifT hb1)) rfl rfl (sv (opT_assign (v := .bool (decide (p0n ≤ p2b))) rfl rfl) rfl rfl (enR (L' := [(6, .bool (decide (p0n ≤ p2b)))]) rfl ?_)))))
  clear A1 S1 a1 w1;intro a3 w3 A3 S3
  refine nrm (wp_ret ?_)
  obtain rfl := Option.some.inj hm
  exact ret_1 A3 rfl (res_tmp A3 rfl) ⟨_, rfl, rfl, _, Hp.le.rfl, St.sel (S3) 1 [0] rfl rfl⟩
end Go.Proofs.Ytcihbmdppgpmjaa.D
