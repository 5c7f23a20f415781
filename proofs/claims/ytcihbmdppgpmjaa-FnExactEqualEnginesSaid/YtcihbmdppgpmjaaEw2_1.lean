/- Printed by dec.py: models of functions and the walks that show them. -/
import Derived.Test.YtcihbmdppgpmjaaEw0_0
import Derived.Test.YtcihbmdppgpmjaaEw0_2
import Derived.Test.YtcihbmdppgpmjaaEw1_0
import Derived.Test.YtcihbmdppgpmjaaEw1_1
import Derived.Test.YtcihbmdppgpmjaaEw1_2
import Derived.Test.YtcihbmdppgpmjaaEw1_3
set_option linter.unusedVariables false
set_option linter.unusedSimpArgs false
set_option linter.unnecessarySimpa false
set_option maxRecDepth 100000
namespace Go.Proofs.Ytcihbmdppgpmjaa.D
open Go.RowKit
set_option maxHeartbeats 8000000 in
theorem c_s_EqualHistories (p0a : Int × (List ((List Int) × (List (Int × Int × Int × Int))))) (p1b : Int × (List ((List Int) × (List (Int × Int × Int × Int))))) (r : Bool) (hm : m_s_EqualHistories p0a p1b = some r) {I : Hp} {w0 : World} (va0 : Value) (va1 : Value) (ra0 : (rSlice 45 (rProd (rSlice 3 rInt) (rSlice 126 (rProd rInt (rProd rInt (rProd rInt rInt)))))).rd I [va0] p0a.2) (ra1 : (rSlice 45 (rProd (rSlice 3 rInt) (rSlice 126 (rProd rInt (rProd rInt (rProd rInt rInt)))))).rd I [va1] p1b.2) : Con Try.prog 81 #[.agg #[.int .i64 p0a.1, va0], .agg #[.int .i64 p1b.1, va1]] I w0 [] (fun v => v = .bool r) (fun v => []) := by
  refine con_of_wp (n := 39) [(0, .agg #[.int .i64 p0a.1, va0]), (1, .agg #[.int .i64 p1b.1, va1])] Try.func81 rfl rfl (Nat.le_of_ble_eq_true rfl) (args_all ⟨rfl, rfl, trivial⟩) (fun F w a ha hs => ?_) (fun v => trivial)
  unfold m_s_EqualHistories at hm
  refine wp_seq ?_
  refine wp_region_lit ?_
  refine seq_op ha hs rfl (opT_box (u := .agg #[.int .i64 p0a.1, va0]) (l := [.int .i64 p0a.1, va0]) rfl rfl rfl) (List.Perm.refl _) rfl ?_
  rintro _ aq1 wq1 ⟨g1, rfl⟩ haq1 (hsq1 : St I w0 wq1 [Ch.blk g1 [.int .i64 p0a.1, va0] 71, F])
  clear ha hs a w
  refine seq_op haq1 hsq1 rfl (opT_box (u := .agg #[.int .i64 p1b.1, va1]) (l := [.int .i64 p1b.1, va1]) rfl rfl rfl) (List.Perm.refl _) rfl ?_
  rintro _ aq2 wq2 ⟨g2, rfl⟩ haq2 (hsq2 : St I w0 wq2 [Ch.blk g2 [.int .i64 p1b.1, va1] 71, Ch.blk g1 [.int .i64 p0a.1, va0] 71, F])
  clear haq1 hsq1 aq1 wq1
  refine seq_op0 haq2 hsq2 (opT_assign (v := .bool false) rfl rfl) rfl rfl ?_
  rintro u aq3 wq3 hf haq3 hsq3
  obtain rfl := Eq.symm hf
  clear haq2 hsq2 aq2 wq2
  refine wpList_nil ?_
  replace haq3 := haq3.pick' (L' := [(2, .pointer (some ⟨g1, 0, none⟩)), (3, .pointer (some ⟨g2, 0, none⟩))]) ⟨rfl, rfl, trivial⟩
  refine nrm ?_
  refine wp_seq ?_
  refine wp_seq ?_
  refine wp_region_lit ?_
  refine seq_op0 haq3 hsq3 (opT_field_addr (g := g1) (b := 0) tf71_0 rfl rfl) rfl rfl ?_
  rintro u aq4 wq4 hf haq4 hsq4
  obtain rfl := Eq.symm hf
  clear haq3 hsq3 aq3 wq3
  refine seq_op haq4 hsq4 rfl (opT_load_blk (g := g1) (off := 0) (E := 71) (l := [.int .i64 p0a.1, va0]) (d := [.int .i64 p0a.1]) (u := .int .i64 p0a.1) ti3 rfl rfl rfl rfl rfl rfl) (perm_front (i := 1) rfl) rfl ?_
  rintro u aq5 wq5 hf haq5 (hsq5 : St I w0 wq5 [Ch.blk g1 [.int .i64 p0a.1, va0] 71, Ch.blk g2 [.int .i64 p1b.1, va1] 71, F])
  obtain rfl := Eq.symm hf
  clear haq4 hsq4 aq4 wq4
  refine seq_op0 haq5 hsq5 (opT_field_addr (g := g2) (b := 0) tf71_0 rfl rfl) rfl rfl ?_
  rintro u aq6 wq6 hf haq6 hsq6
  obtain rfl := Eq.symm hf
  clear haq5 hsq5 aq5 wq5
  refine seq_op haq6 hsq6 rfl (opT_load_blk (g := g2) (off := 0) (E := 71) (l := [.int .i64 p1b.1, va1]) (d := [.int .i64 p1b.1]) (u := .int .i64 p1b.1) ti3 rfl rfl rfl rfl rfl rfl) (perm_front (i := 1) rfl) rfl ?_
  rintro u aq7 wq7 hf haq7 (hsq7 : St I w0 wq7 [Ch.blk g2 [.int .i64 p1b.1, va1] 71, Ch.blk g1 [.int .i64 p0a.1, va0] 71, F])
  obtain rfl := Eq.symm hf
  clear haq6 hsq6 aq6 wq6
  refine seq_op0 haq7 hsq7 (opT_cmp (k := .i64) (m := p0a.1) (n := p1b.1) (c := p0a.1 != p1b.1) rfl rfl rfl rfl rfl) rfl rfl ?_
  rintro u aq8 wq8 hf haq8 hsq8
  obtain rfl := Eq.symm hf
  clear haq7 hsq7 aq7 wq7
  refine seq_op0 haq8 hsq8 (opT_move (v := .bool (p0a.1 != p1b.1)) rfl rfl) rfl rfl ?_
  rintro u aq9 wq9 hf haq9 hsq9
  obtain rfl := Eq.symm hf
  clear haq8 hsq8 aq8 wq8
  rcases two (p0a.1 != p1b.1) with hb1 | hb1
  · replace hm := ifFe hb1 hm
    refine seq_op_g0 (g := 5) (d := 11) (want := false) (b := p0a.1 != p1b.1) haq9 hsq9 rfl rfl rfl hb1 (opT_field_addr (g := g1) (b := 0) tf71_1 rfl rfl) rfl ?_
    rintro u aq10 wq10 hf haq10 hsq10
    obtain rfl := Eq.symm hf
    clear haq9 hsq9 aq9 wq9
    refine seq_op_g (g := 5) (d := 11) (want := false) (b := p0a.1 != p1b.1) haq10 hsq10 rfl rfl rfl hb1 (opT_load_blk (g := g1) (off := 1) (E := 71) (l := [.int .i64 p0a.1, va0]) (d := [va0]) (u := va0) ti69 rfl rfl rfl rfl rfl rfl) (perm_front (i := 1) rfl) rfl ?_
    rintro u aq11 wq11 hf haq11 (hsq11 : St I w0 wq11 [Ch.blk g1 [.int .i64 p0a.1, va0] 71, Ch.blk g2 [.int .i64 p1b.1, va1] 71, F])
    obtain rfl := Eq.symm hf
    clear haq10 hsq10 aq10 wq10
    refine seq_op_g0 (g := 5) (d := 11) (want := false) (b := p0a.1 != p1b.1) haq11 hsq11 rfl rfl rfl hb1 (opT_len_hd (v := va0) (n := p0a.2.length) (Hd.of_rd ra0) Try.underlying69 rfl rfl) rfl ?_
    rintro u aq12 wq12 hf haq12 hsq12
    obtain rfl := Eq.symm hf
    clear haq11 hsq11 aq11 wq11
    refine seq_op_g0 (g := 5) (d := 11) (want := false) (b := p0a.1 != p1b.1) haq12 hsq12 rfl rfl rfl hb1 (opT_field_addr (g := g2) (b := 0) tf71_1 rfl rfl) rfl ?_
    rintro u aq13 wq13 hf haq13 hsq13
    obtain rfl := Eq.symm hf
    clear haq12 hsq12 aq12 wq12
    refine seq_op_g (g := 5) (d := 11) (want := false) (b := p0a.1 != p1b.1) haq13 hsq13 rfl rfl rfl hb1 (opT_load_blk (g := g2) (off := 1) (E := 71) (l := [.int .i64 p1b.1, va1]) (d := [va1]) (u := va1) ti69 rfl rfl rfl rfl rfl rfl) (perm_front (i := 1) rfl) rfl ?_
    rintro u aq14 wq14 hf haq14 (hsq14 : St I w0 wq14 [Ch.blk g2 [.int .i64 p1b.1, va1] 71, Ch.blk g1 [.int .i64 p0a.1, va0] 71, F])
    obtain rfl := Eq.symm hf
    clear haq13 hsq13 aq13 wq13
    refine seq_op_g0 (g := 5) (d := 11) (want := false) (b := p0a.1 != p1b.1) haq14 hsq14 rfl rfl rfl hb1 (opT_len_hd (v := va1) (n := p1b.2.length) (Hd.of_rd ra1) Try.underlying69 rfl rfl) rfl ?_
    rintro u aq15 wq15 hf haq15 hsq15
    obtain rfl := Eq.symm hf
    clear haq14 hsq14 aq14 wq14
    refine seq_op_g0 (g := 5) (d := 11) (want := false) (b := p0a.1 != p1b.1) haq15 hsq15 rfl rfl rfl hb1 (opT_cmp (k := .i64) (m := (p0a.2.length : Int)) (n := (p1b.2.length : Int)) (c := (p0a.2.length : Int) != (p1b.2.length : Int)) rfl rfl rfl rfl rfl) rfl ?_
    rintro u aq16 wq16 hf haq16 hsq16
    obtain rfl := Eq.symm hf
    clear haq15 hsq15 aq15 wq15
    refine seq_op0 haq16 hsq16 (opT_pick (b := p0a.1 != p1b.1) (v := .bool ((p0a.2.length : Int) != (p1b.2.length : Int))) rfl rfl (ifF hb1)) rfl rfl ?_
    rintro u aq17 wq17 hf haq17 hsq17
    obtain rfl := Eq.symm hf
    clear haq16 hsq16 aq16 wq16
    refine wpList_nil ?_
    replace haq17 := haq17.pick' (L' := [(2, .pointer (some ⟨g1, 0, none⟩)), (3, .pointer (some ⟨g2, 0, none⟩)), (19, .bool ((p0a.2.length : Int) != (p1b.2.length : Int)))]) ⟨rfl, rfl, rfl, trivial⟩
    refine nrm ?_
    rcases two ((p0a.2.length : Int) != (p1b.2.length : Int)) with hb2 | hb2
    · replace hm := ifFe hb2 hm
      refine cnd_false (b := (p0a.2.length : Int) != (p1b.2.length : Int)) haq17 rfl rfl hb2 ?_
      refine wp_skip ?_
      refine nrm ?_
      refine wp_seq ?_
      refine wp_seq ?_
      refine wp_region_lit ?_
      refine seq_op0 haq17 hsq17 (opT_assign (v := .int .i64 0) rfl rfl) rfl rfl ?_
      rintro u aq18 wq18 hf haq18 hsq18
      obtain rfl := Eq.symm hf
      clear haq17 hsq17 aq17 wq17
      refine wpList_nil ?_
      replace haq18 := haq18.pick' (L' := [(2, .pointer (some ⟨g1, 0, none⟩)), (3, .pointer (some ⟨g2, 0, none⟩)), (5, .int .i64 0)]) ⟨rfl, rfl, rfl, trivial⟩
      refine nrm ?_
      obtain ⟨o1, hl1, hc1⟩ := bindL_some hm
      refine wp_cut (fun a w => ∃ s4 : Int, o1 = .brk s4 ∧ Agr 39 a [] ∧ St I w0 w [F]) ?_ ?_
      · refine wp_block (wp_loopM (R := Bool) (S := Int) (fun s3 a w => Agr 39 a [(2, .pointer (some ⟨g1, 0, none⟩)), (3, .pointer (some ⟨g2, 0, none⟩)), (5, .int .i64 s3)] ∧ St I w0 w [Ch.blk g1 [.int .i64 p0a.1, va0] 71, Ch.blk g2 [.int .i64 p1b.1, va1] 71, F]) hl1 ?_ ?_)
        · exact ⟨haq18.pick' ⟨rfl, rfl, rfl, trivial⟩, St.sel hsq18 3 [1, 0, 2] rfl rfl⟩
        · rintro s3 o2 hm hf1 aq37 wq37 ⟨haq37, hsq37⟩
          unfold m_s_EqualHistories_l0 at hm
          refine wp_seq ?_
          refine wp_seq ?_
          refine wp_region_lit ?_
          refine seq_op0 haq37 hsq37 (opT_move (v := .int .i64 s3) rfl rfl) rfl rfl ?_
          rintro u aq38 wq38 hf haq38 hsq38
          obtain rfl := Eq.symm hf
          clear haq37 hsq37 aq37 wq37
          refine seq_op0 haq38 hsq38 (opT_field_addr (g := g1) (b := 0) tf71_1 rfl rfl) rfl rfl ?_
          rintro u aq39 wq39 hf haq39 hsq39
          obtain rfl := Eq.symm hf
          clear haq38 hsq38 aq38 wq38
          refine seq_op haq39 hsq39 rfl (opT_load_blk (g := g1) (off := 1) (E := 71) (l := [.int .i64 p0a.1, va0]) (d := [va0]) (u := va0) ti69 rfl rfl rfl rfl rfl rfl) (perm_front (i := 0) rfl) rfl ?_
          rintro u aq40 wq40 hf haq40 (hsq40 : St I w0 wq40 [Ch.blk g1 [.int .i64 p0a.1, va0] 71, Ch.blk g2 [.int .i64 p1b.1, va1] 71, F])
          obtain rfl := Eq.symm hf
          clear haq39 hsq39 aq39 wq39
          refine seq_op0 haq40 hsq40 (opT_len_hd (v := va0) (n := p0a.2.length) (Hd.of_rd ra0) Try.underlying69 rfl rfl) rfl rfl ?_
          rintro u aq41 wq41 hf haq41 hsq41
          obtain rfl := Eq.symm hf
          clear haq40 hsq40 aq40 wq40
          refine seq_op0 haq41 hsq41 (opT_cmp (k := .i64) (m := s3) (n := (p0a.2.length : Int)) (c := decide (s3 < (p0a.2.length : Int))) rfl rfl rfl rfl rfl) rfl rfl ?_
          rintro u aq42 wq42 hf haq42 hsq42
          obtain rfl := Eq.symm hf
          clear haq41 hsq41 aq41 wq41
          refine wpList_nil ?_
          replace haq42 := haq42.pick' (L' := [(2, .pointer (some ⟨g1, 0, none⟩)), (3, .pointer (some ⟨g2, 0, none⟩)), (5, .int .i64 s3), (24, .bool (decide (s3 < (p0a.2.length : Int))))]) ⟨rfl, rfl, rfl, rfl, trivial⟩
          refine nrm ?_
          rcases two (decide (s3 < (p0a.2.length : Int))) with hb7 | hb7
          · replace hm := ifFe hb7 hm
            refine cnd_false (b := decide (s3 < (p0a.2.length : Int))) haq42 rfl rfl hb7 ?_
            refine wp_exit ?_
            refine thenX ?_
            refine thenX ?_
            refine ex_in ?_
            refine nrm ?_
            exact ⟨_, loopBrk hm hf1, ⟨haq42.pick' trivial, St.sel hsq42 3 [2] rfl rfl⟩⟩
          · replace hm := ifTe hb7 hm
            refine cnd_true (b := decide (s3 < (p0a.2.length : Int))) haq42 rfl rfl hb7 ?_
            refine wp_skip ?_
            refine nrm ?_
            refine wp_seq ?_
            refine wp_block ?_
            refine wp_seq ?_
            obtain ⟨x5, e7, hm⟩ := bind_some hm
            obtain ⟨x6, e8, hm⟩ := bind_some hm
            obtain ⟨r15, e9, hm⟩ := bind_some hm
            refine wp_draw (L := [(2, .pointer (some ⟨g1, 0, none⟩)), (3, .pointer (some ⟨g2, 0, none⟩)), (5, .int .i64 s3), (24, .bool (decide (s3 < (p0a.2.length : Int))))]) (C := [F]) { ops := [⟨[], [], [], [0], fun | [xo0] => xo0 = .pointer (some ⟨g1, 1, none⟩) | _ => True, [(2, none)]⟩, ⟨[0], [], [], [1], fun | [xo1] => xo1 = va0 | _ => True, [(27, some 0)]⟩, ⟨[], [], [], [2], fun | [xo2] => xo2 = .int .i64 s3 | _ => True, [(5, none)]⟩, ⟨[], [], [], [3], fun | [xo3] => xo3 = pt va0 (s3.toNat * 2) | _ => True, [(28, some 1), (29, some 2)]⟩, ⟨[], [], [], [4], fun | [xo4] => xo4 = .agg #[(vg xo4 [0]), (vg xo4 [1])] ∧ (rSlice 3 rInt).rd I [(vg xo4 [0])] x5.1 ∧ (rSlice 126 (rProd rInt (rProd rInt (rProd rInt rInt)))).rd I [(vg xo4 [1])] x5.2 | _ => True, [(30, some 3)]⟩, ⟨[], [], [], [5], fun | [xo5] => xo5 = .pointer (some ⟨g2, 1, none⟩) | _ => True, [(3, none)]⟩, ⟨[1], [], [], [6], fun | [xo6] => xo6 = va1 | _ => True, [(32, some 5)]⟩, ⟨[], [], [], [7], fun | [xo7] => xo7 = .int .i64 s3 | _ => True, [(5, none)]⟩, ⟨[], [], [], [8], fun | [xo8] => xo8 = pt va1 (s3.toNat * 2) | _ => True, [(33, some 6), (34, some 7)]⟩, ⟨[], [], [], [9], fun | [xo9] => xo9 = .agg #[(vg xo9 [0]), (vg xo9 [1])] ∧ (rSlice 3 rInt).rd I [(vg xo9 [0])] x6.1 ∧ (rSlice 126 (rProd rInt (rProd rInt (rProd rInt rInt)))).rd I [(vg xo9 [1])] x6.2 | _ => True, [(35, some 8)]⟩, ⟨[], [], [], [10], fun | [xo10] => xo10 = .bool r15 | _ => True, [(31, some 4), (36, some 9)]⟩, ⟨[], [], [], [11], fun | [xo11] => xo11 = .bool (!r15) | _ => True, [(37, some 10)]⟩], res := [⟨[], fun _ => Ch.blk g1 [.int .i64 p0a.1, va0] 71⟩, ⟨[], fun _ => Ch.blk g2 [.int .i64 p1b.1, va1] 71⟩], base := [0, 1], pre := [[], [0], [], [0, 1, 2], [0, 1, 2, 3], [], [5], [], [5, 6, 7], [5, 6, 7, 8], [0, 1, 2, 3, 4, 5, 6, 7, 8, 9], [0, 1, 2, 3, 4, 5, 6, 7, 8, 9, 10]], fin := [(2, none), (3, none), (5, none), (38, some 11)], left := [0, 1] } (by kernel_rfl) haq42 hsq42 (perm_sel [0, 1, 2] (m := 3) rfl rfl) (by kernel_rfl) (by kernel_rfl) ?_ ?_
            · exact ⟨Plan.goal_run fun vs hf => ⟨wants_none rfl, OpT.conv (OpT.evs (ev' := evL [(2, .pointer (some ⟨g1, 0, none⟩))]) (opT_field_addr (g := g1) (b := 0) tf71_1 rfl rfl) rfl [.tmp 2] rfl ⟨rfl, trivial⟩) rfl (fun _ h => Eq.trans h rfl) (fun _ => rfl)⟩, Plan.goal_run fun vs hf => ⟨wants_none rfl, OpT.conv (OpT.evs (ev' := evL [(27, .pointer (some ⟨g1, 1, none⟩))]) (opT_load_blk (g := g1) (off := 1) (E := 71) (l := [.int .i64 p0a.1, va0]) (d := [va0]) (u := va0) ti69 rfl rfl rfl rfl rfl rfl) rfl [.tmp 27] rfl ⟨(hf 0 (mb rfl)), trivial⟩) rfl (fun _ h => Eq.trans h rfl) (fun _ => rfl)⟩, Plan.goal_run fun vs hf => ⟨wants_none rfl, OpT.conv (OpT.evs (ev' := evL [(5, .int .i64 s3)]) (opT_move (v := .int .i64 s3) rfl rfl) rfl [.tmp 5] rfl ⟨rfl, trivial⟩) rfl (fun _ h => Eq.trans h rfl) (fun _ => rfl)⟩, Plan.goal_run fun vs hf => ⟨wants_none rfl, OpT.conv (OpT.evs (ev' := evL [(28, va0), (29, .int .i64 s3)]) (opT_index_hd (xs := p0a.2) (i := s3) (n := 2) (Hd.of_rd ra0) Try.underlying69 ti45 rfl rfl rfl (getI_in e7)) rfl [.tmp 28, .tmp 29] rfl ⟨(hf 1 (mb rfl)), (hf 2 (mb rfl)), trivial⟩) rfl (fun _ h => Eq.trans h rfl) (fun _ => rfl)⟩, Plan.goal_run fun vs hf => ⟨wants_none rfl, OpT.conv (OpT.evs (ev' := evL [(30, pt va0 (s3.toNat * 2))]) (opT_load_el (S := rProd (rSlice 3 rInt) (rSlice 126 (rProd rInt (rProd rInt (rProd rInt rInt))))) (xs := p0a.2) (a := x5) (i := s3) (k := 2) (off := 0) (f := fun (x : (List Int) × (List (Int × Int × Int × Int))) => x) ra0 e7 Fld.self ti45 rfl rfl rfl rfl rfl) rfl [.tmp 30] rfl ⟨(hf 3 (mb rfl)), trivial⟩) rfl (fun u h => by obtain ⟨d, hd, h⟩ := h; obtain ⟨_, _, rfl, qq0, qq1⟩ := hd; obtain ⟨_, rfl⟩ := one_cell qq0 rfl; obtain ⟨_, rfl⟩ := one_cell qq1 rfl; obtain rfl : u = _ := h; exact ⟨rfl, qq0, qq1⟩) (fun _ => rfl)⟩, Plan.goal_run fun vs hf => ⟨wants_none rfl, OpT.conv (OpT.evs (ev' := evL [(3, .pointer (some ⟨g2, 0, none⟩))]) (opT_field_addr (g := g2) (b := 0) tf71_1 rfl rfl) rfl [.tmp 3] rfl ⟨rfl, trivial⟩) rfl (fun _ h => Eq.trans h rfl) (fun _ => rfl)⟩, Plan.goal_run fun vs hf => ⟨wants_none rfl, OpT.conv (OpT.evs (ev' := evL [(32, .pointer (some ⟨g2, 1, none⟩))]) (opT_load_blk (g := g2) (off := 1) (E := 71) (l := [.int .i64 p1b.1, va1]) (d := [va1]) (u := va1) ti69 rfl rfl rfl rfl rfl rfl) rfl [.tmp 32] rfl ⟨(hf 5 (mb rfl)), trivial⟩) rfl (fun _ h => Eq.trans h rfl) (fun _ => rfl)⟩, Plan.goal_run fun vs hf => ⟨wants_none rfl, OpT.conv (OpT.evs (ev' := evL [(5, .int .i64 s3)]) (opT_move (v := .int .i64 s3) rfl rfl) rfl [.tmp 5] rfl ⟨rfl, trivial⟩) rfl (fun _ h => Eq.trans h rfl) (fun _ => rfl)⟩, Plan.goal_run fun vs hf => ⟨wants_none rfl, OpT.conv (OpT.evs (ev' := evL [(33, va1), (34, .int .i64 s3)]) (opT_index_hd (xs := p1b.2) (i := s3) (n := 2) (Hd.of_rd ra1) Try.underlying69 ti45 rfl rfl rfl (getI_in e8)) rfl [.tmp 33, .tmp 34] rfl ⟨(hf 6 (mb rfl)), (hf 7 (mb rfl)), trivial⟩) rfl (fun _ h => Eq.trans h rfl) (fun _ => rfl)⟩, Plan.goal_run fun vs hf => ⟨wants_none rfl, OpT.conv (OpT.evs (ev' := evL [(35, pt va1 (s3.toNat * 2))]) (opT_load_el (S := rProd (rSlice 3 rInt) (rSlice 126 (rProd rInt (rProd rInt (rProd rInt rInt))))) (xs := p1b.2) (a := x6) (i := s3) (k := 2) (off := 0) (f := fun (x : (List Int) × (List (Int × Int × Int × Int))) => x) ra1 e8 Fld.self ti45 rfl rfl rfl rfl rfl) rfl [.tmp 35] rfl ⟨(hf 8 (mb rfl)), trivial⟩) rfl (fun u h => by obtain ⟨d, hd, h⟩ := h; obtain ⟨_, _, rfl, qq0, qq1⟩ := hd; obtain ⟨_, rfl⟩ := one_cell qq0 rfl; obtain ⟨_, rfl⟩ := one_cell qq1 rfl; obtain rfl : u = _ := h; exact ⟨rfl, qq0, qq1⟩) (fun _ => rfl)⟩, Plan.goal_run fun vs hf => ⟨wants_none rfl, OpT.conv (OpT.evs (ev' := evL [(31, .agg #[(vg (vs 4) [0]), (vg (vs 4) [1])]), (36, .agg #[(vg (vs 9) [0]), (vg (vs 9) [1])])]) (opT_call (args := #[.agg #[(vg (vs 4) [0]), (vg (vs 4) [1])], .agg #[(vg (vs 9) [0]), (vg (vs 9) [1])]]) (first := #[]) (captured := #[]) en131 rfl rfl rfl (c_s_EqualGraphs (x5.1, x5.2) (x6.1, x6.2) _ e9 (vg (vs 4) [0]) (vg (vs 4) [1]) (vg (vs 9) [0]) (vg (vs 9) [1]) (show (rSlice 3 rInt).rd I [(vg (vs 4) [0])] x5.1 from (hf 4 (mb rfl)).2.1) (show (rSlice 126 (rProd rInt (rProd rInt (rProd rInt rInt)))).rd I [(vg (vs 4) [1])] x5.2 from (hf 4 (mb rfl)).2.2) (show (rSlice 3 rInt).rd I [(vg (vs 9) [0])] x6.1 from (hf 9 (mb rfl)).2.1) (show (rSlice 126 (rProd rInt (rProd rInt (rProd rInt rInt)))).rd I [(vg (vs 9) [1])] x6.2 from (hf 9 (mb rfl)).2.2))) rfl [.func 131, .tmp 31, .tmp 36] rfl ⟨rfl, (hf 4 (mb rfl)).1, (hf 9 (mb rfl)).1, trivial⟩) rfl (fun _ h => h) (fun _ => rfl)⟩, Plan.goal_run fun vs hf => ⟨wants_none rfl, OpT.conv (OpT.evs (ev' := evL [(37, .bool r15)]) (opT_not (b := r15) rfl rfl) rfl [.tmp 37] rfl ⟨(hf 10 (mb rfl)), trivial⟩) rfl (fun _ h => Eq.trans h rfl) (fun _ => rfl)⟩, trivial⟩
            intro vs aq43 wq43 hf haq43 hsq43
            clear haq42 hsq42
            replace haq43 := haq43.pick' (L' := [(2, .pointer (some ⟨g1, 0, none⟩)), (3, .pointer (some ⟨g2, 0, none⟩)), (5, .int .i64 s3), (38, .bool (!r15))]) ⟨rfl, rfl, rfl, (congrArg some (show _ = _ from (hf 11 (Nat.le_of_ble_eq_true rfl)))), trivial⟩
            replace hsq43 : St I w0 wq43 [Ch.blk g1 [.int .i64 p0a.1, va0] 71, Ch.blk g2 [.int .i64 p1b.1, va1] 71, F] := hsq43
            clear hf vs
            refine nrm ?_
            rcases two (r15) with hb8 | hb8
            · replace hm := ifFe hb8 hm
              refine cnd_true (b := !r15) haq43 rfl rfl (notT hb8) ?_
              refine wp_seq ?_
              refine wp_region_lit ?_
              refine seq_op0 haq43 hsq43 (opT_assign (v := .bool false) rfl rfl) rfl rfl ?_
              rintro u aq44 wq44 hf haq44 hsq44
              obtain rfl := Eq.symm hf
              clear haq43 hsq43 aq43 wq43
              refine wpList_nil ?_
              replace haq44 := haq44.pick' (L' := [(4, .bool false)]) ⟨rfl, trivial⟩
              refine nrm ?_
              refine wp_ret ?_
              refine blkR ?_
              refine thenR ?_
              refine thenR ?_
              refine blkR ?_
              refine thenR ?_
              refine thenR ?_
              replace hm := loopRet hm hf1 hc1
              obtain rfl := Option.some.inj hm
              exact ret_1 haq44 rfl (res_tmp haq44 rfl) ⟨_, rfl, rfl, _, Hp.le.rfl, St.sel (hsq44) 3 [2] rfl rfl⟩
            · replace hm := ifTe hb8 hm
              refine cnd_false (b := !r15) haq43 rfl rfl (notF hb8) ?_
              refine wp_skip ?_
              refine nrmB ?_
              refine nrm ?_
              refine wp_region_lit ?_
              refine seq_op0 haq43 hsq43 (opT_move (v := .int .i64 s3) rfl rfl) rfl rfl ?_
              rintro u aq45 wq45 hf haq45 hsq45
              obtain rfl := Eq.symm hf
              clear haq43 hsq43 aq43 wq43
              refine seq_op0 haq45 hsq45 (opT_add (m := s3) (n := 1) rfl rfl rfl) rfl rfl ?_
              rintro u aq46 wq46 hf haq46 hsq46
              obtain rfl := Eq.symm hf
              clear haq45 hsq45 aq45 wq45
              refine seq_op0 haq46 hsq46 (opT_assign (v := .int .i64 (IntKind.i64.wrap (s3 + 1))) rfl rfl) rfl rfl ?_
              rintro u aq47 wq47 hf haq47 hsq47
              obtain rfl := Eq.symm hf
              clear haq46 hsq46 aq46 wq46
              refine wpList_nil ?_
              replace haq47 := haq47.pick' (L' := [(2, .pointer (some ⟨g1, 0, none⟩)), (3, .pointer (some ⟨g2, 0, none⟩)), (5, .int .i64 (IntKind.i64.wrap (s3 + 1)))]) ⟨rfl, rfl, rfl, trivial⟩
              refine nrm ?_
              exact ⟨_, (Option.some.inj hm).symm, ⟨haq47.pick' ⟨rfl, rfl, rfl, trivial⟩, St.sel hsq47 3 [0, 1, 2] rfl rfl⟩⟩
      · rintro aq48 wq48 ⟨s4, ho1, haq48, hsq48⟩
        replace hm := loopOut ho1 hc1
        clear ho1 hc1 hl1
        refine nrm ?_
        refine wp_seq ?_
        refine wp_region_lit ?_
        refine seq_op0 haq48 hsq48 (opT_assign (v := .bool true) rfl rfl) rfl rfl ?_
        rintro u aq49 wq49 hf haq49 hsq49
        obtain rfl := Eq.symm hf
        clear haq48 hsq48 aq48 wq48
        refine wpList_nil ?_
        replace haq49 := haq49.pick' (L' := [(4, .bool true)]) ⟨rfl, trivial⟩
        refine nrm ?_
        refine wp_ret ?_
        obtain rfl := Option.some.inj hm
        exact ret_1 haq49 rfl (res_tmp haq49 rfl) ⟨_, rfl, rfl, _, Hp.le.rfl, St.sel (hsq49) 1 [0] rfl rfl⟩
    · replace hm := ifTe hb2 hm
      refine cnd_true (b := (p0a.2.length : Int) != (p1b.2.length : Int)) haq17 rfl rfl hb2 ?_
      refine wp_seq ?_
      refine wp_region_lit ?_
      refine seq_op0 haq17 hsq17 (opT_assign (v := .bool false) rfl rfl) rfl rfl ?_
      rintro u aq50 wq50 hf haq50 hsq50
      obtain rfl := Eq.symm hf
      clear haq17 hsq17 aq17 wq17
      refine wpList_nil ?_
      replace haq50 := haq50.pick' (L' := [(4, .bool false)]) ⟨rfl, trivial⟩
      refine nrm ?_
      refine wp_ret ?_
      refine thenR ?_
      obtain rfl := Option.some.inj hm
      exact ret_1 haq50 rfl (res_tmp haq50 rfl) ⟨_, rfl, rfl, _, Hp.le.rfl, St.sel (hsq50) 3 [2] rfl rfl⟩
  · replace hm := ifTe hb1 hm
    refine seq_skip (g := 5) (d := 11) (want := false) (b := p0a.1 != p1b.1) haq9 hsq9 rfl rfl rfl hb1 rfl ?_
    intro aq51 haq51
    refine seq_skip (g := 5) (d := 11) (want := false) (b := p0a.1 != p1b.1) haq51 hsq9 rfl rfl rfl hb1 rfl ?_
    intro aq52 haq52
    refine seq_skip (g := 5) (d := 11) (want := false) (b := p0a.1 != p1b.1) haq52 hsq9 rfl rfl rfl hb1 rfl ?_
    intro aq53 haq53
    refine seq_skip (g := 5) (d := 11) (want := false) (b := p0a.1 != p1b.1) haq53 hsq9 rfl rfl rfl hb1 rfl ?_
    intro aq54 haq54
    refine seq_skip (g := 5) (d := 11) (want := false) (b := p0a.1 != p1b.1) haq54 hsq9 rfl rfl rfl hb1 rfl ?_
    intro aq55 haq55
    refine seq_skip (g := 5) (d := 11) (want := false) (b := p0a.1 != p1b.1) haq55 hsq9 rfl rfl rfl hb1 rfl ?_
    intro aq56 haq56
    refine seq_skip (g := 5) (d := 11) (want := false) (b := p0a.1 != p1b.1) haq56 hsq9 rfl rfl rfl hb1 rfl ?_
    intro aq57 haq57
    refine seq_op0 haq57 hsq9 (opT_pick (b := p0a.1 != p1b.1) (v := .bool true) rfl rfl (ifT hb1)) rfl rfl ?_
    rintro u aq58 wq58 hf haq58 hsq58
    obtain rfl := Eq.symm hf
    clear haq57 hsq9 aq57 wq9
    refine wpList_nil ?_
    replace haq58 := haq58.pick' (L' := [(2, .pointer (some ⟨g1, 0, none⟩)), (3, .pointer (some ⟨g2, 0, none⟩)), (19, .bool true)]) ⟨rfl, rfl, rfl, trivial⟩
    refine nrm ?_
    refine cnd_true (b := true) haq58 rfl rfl rfl ?_
    refine wp_seq ?_
    refine wp_region_lit ?_
    refine seq_op0 haq58 hsq58 (opT_assign (v := .bool false) rfl rfl) rfl rfl ?_
    rintro u aq59 wq59 hf haq59 hsq59
    obtain rfl := Eq.symm hf
    clear haq58 hsq58 aq58 wq58
    refine wpList_nil ?_
    replace haq59 := haq59.pick' (L' := [(4, .bool false)]) ⟨rfl, trivial⟩
    refine nrm ?_
    refine wp_ret ?_
    refine thenR ?_
    obtain rfl := Option.some.inj hm
    exact ret_1 haq59 rfl (res_tmp haq59 rfl) ⟨_, rfl, rfl, _, Hp.le.rfl, St.sel (hsq59) 3 [2] rfl rfl⟩
set_option maxHeartbeats 8000000 in
theorem c_w_toAutomaton (p0a : Int × (List Bool) × (List (List Int))) (r : Int × (List Bool) × (List (List Int))) (hm : m_w_toAutomaton p0a = some r) {I : Hp} {w0 : World} (va0 : Value) (va1 : Value) (ra0 : (rSlice 4 rBool).rd I [va0] p0a.2.1) (ra1 : (rSlice 34 (rSlice 3 rInt)).rd I [va1] p0a.2.2) : Con Try.prog 14 #[.agg #[.int .i64 p0a.1, va0, va1]] I w0 [] (fun v => ∃ h0 h1 : Value, v = .agg #[.int .i64 r.1, h0, h1]) (fun v => [Ch.own (rSlice 4 rBool) [vg v [1]] r.2.1, Ch.own (rSlice 34 (rSlice 3 rInt)) [vg v [2]] r.2.2]) := by
  refine con_of_wp (n := 16) [(0, .agg #[.int .i64 p0a.1, va0, va1])] Try.func14 rfl rfl (Nat.le_of_ble_eq_true rfl) (args_all ⟨rfl, trivial⟩) (fun F w a ha hs => ?_) (fun v => ⟨dp_own (dp_slice dp_bool), dp_own (dp_slice (dp_slice dp_int)), trivial⟩)
  unfold m_w_toAutomaton at hm
  refine wp_seq ?_
  refine wp_region_lit ?_
  refine seq_op ha hs rfl (opT_box (u := .agg #[.int .i64 p0a.1, va0, va1]) (l := [.int .i64 p0a.1, va0, va1]) rfl rfl rfl) (List.Perm.refl _) rfl ?_
  rintro _ aq1 wq1 ⟨g1, rfl⟩ haq1 (hsq1 : St I w0 wq1 [Ch.blk g1 [.int .i64 p0a.1, va0, va1] 25, F])
  clear ha hs a w
  refine seq_op haq1 hsq1 rfl (opT_alloc (l := [.int .i64 0, .slice none 0 0, .slice none 0 0]) tz27 rfl rfl) (List.Perm.refl _) rfl ?_
  rintro _ aq2 wq2 ⟨g2, rfl⟩ haq2 (hsq2 : St I w0 wq2 [Ch.blk g2 [.int .i64 0, .slice none 0 0, .slice none 0 0] 27, Ch.blk g1 [.int .i64 p0a.1, va0, va1] 25, F])
  clear haq1 hsq1 aq1 wq1
  refine wpList_nil ?_
  replace haq2 := haq2.pick' (L' := [(1, .pointer (some ⟨g1, 0, none⟩)), (2, .pointer (some ⟨g2, 0, none⟩))]) ⟨rfl, rfl, trivial⟩
  refine nrm ?_
  refine wp_seq ?_
  refine wp_region_lit ?_
  refine seq_op haq2 hsq2 rfl (opT_alloc (l := [.int .i64 0, .slice none 0 0, .slice none 0 0]) tz27 rfl rfl) (List.Perm.refl _) rfl ?_
  rintro _ aq3 wq3 ⟨g3, rfl⟩ haq3 (hsq3 : St I w0 wq3 [Ch.blk g3 [.int .i64 0, .slice none 0 0, .slice none 0 0] 27, Ch.blk g2 [.int .i64 0, .slice none 0 0, .slice none 0 0] 27, Ch.blk g1 [.int .i64 p0a.1, va0, va1] 25, F])
  clear haq2 hsq2 aq2 wq2
  refine wpList_nil ?_
  replace haq3 := haq3.pick' (L' := [(1, .pointer (some ⟨g1, 0, none⟩)), (2, .pointer (some ⟨g2, 0, none⟩)), (3, .pointer (some ⟨g3, 0, none⟩))]) ⟨rfl, rfl, rfl, trivial⟩
  refine nrm ?_
  refine wp_seq ?_
  refine wp_region_lit ?_
  refine seq_op0 haq3 hsq3 (opT_field_addr (g := g1) (b := 0) tf25_0 rfl rfl) rfl rfl ?_
  rintro u aq4 wq4 hf haq4 hsq4
  obtain rfl := Eq.symm hf
  clear haq3 hsq3 aq3 wq3
  refine seq_op haq4 hsq4 rfl (opT_load_blk (g := g1) (off := 0) (E := 25) (l := [.int .i64 p0a.1, va0, va1]) (d := [.int .i64 p0a.1]) (u := .int .i64 p0a.1) ti3 rfl rfl rfl rfl rfl rfl) (perm_front (i := 2) rfl) rfl ?_
  rintro u aq5 wq5 hf haq5 (hsq5 : St I w0 wq5 [Ch.blk g1 [.int .i64 p0a.1, va0, va1] 25, Ch.blk g3 [.int .i64 0, .slice none 0 0, .slice none 0 0] 27, Ch.blk g2 [.int .i64 0, .slice none 0 0, .slice none 0 0] 27, F])
  obtain rfl := Eq.symm hf
  clear haq4 hsq4 aq4 wq4
  refine seq_op0 haq5 hsq5 (opT_field_addr (g := g3) (b := 0) tf27_0 rfl rfl) rfl rfl ?_
  rintro u aq6 wq6 hf haq6 hsq6
  obtain rfl := Eq.symm hf
  clear haq5 hsq5 aq5 wq5
  refine seq_op haq6 hsq6 rfl (opT_store_blk (g := g3) (off := 0) (l := [.int .i64 0, .slice none 0 0, .slice none 0 0]) (d := [.int .i64 p0a.1]) (E := 27) (u := .int .i64 p0a.1) ti3 rfl rfl rfl rfl rfl (allC rfl allN) (Nat.le_of_ble_eq_true rfl)) (perm_front (i := 1) rfl) rfl ?_
  rintro _ aq7 wq7 - haq7 (hsq7 : St I w0 wq7 [Ch.blk g3 [.int .i64 p0a.1, .slice none 0 0, .slice none 0 0] 27, Ch.blk g1 [.int .i64 p0a.1, va0, va1] 25, Ch.blk g2 [.int .i64 0, .slice none 0 0, .slice none 0 0] 27, F])
  clear haq6 hsq6 aq6 wq6
  refine wpList_nil ?_
  replace haq7 := haq7.pick' (L' := [(1, .pointer (some ⟨g1, 0, none⟩)), (2, .pointer (some ⟨g2, 0, none⟩)), (3, .pointer (some ⟨g3, 0, none⟩))]) ⟨rfl, rfl, rfl, trivial⟩
  refine nrm ?_
  refine wp_seq ?_
  refine wp_region_lit ?_
  refine seq_op0 haq7 hsq7 (opT_field_addr (g := g1) (b := 0) tf25_1 rfl rfl) rfl rfl ?_
  rintro u aq8 wq8 hf haq8 hsq8
  obtain rfl := Eq.symm hf
  clear haq7 hsq7 aq7 wq7
  refine seq_op haq8 hsq8 rfl (opT_load_blk (g := g1) (off := 1) (E := 25) (l := [.int .i64 p0a.1, va0, va1]) (d := [va0]) (u := va0) ti22 rfl rfl rfl rfl rfl rfl) (perm_front (i := 1) rfl) rfl ?_
  rintro u aq9 wq9 hf haq9 (hsq9 : St I w0 wq9 [Ch.blk g1 [.int .i64 p0a.1, va0, va1] 25, Ch.blk g3 [.int .i64 p0a.1, .slice none 0 0, .slice none 0 0] 27, Ch.blk g2 [.int .i64 0, .slice none 0 0, .slice none 0 0] 27, F])
  obtain rfl := Eq.symm hf
  clear haq8 hsq8 aq8 wq8
  obtain ⟨r1, e1, hm⟩ := bind_some hm
  refine seq_op haq9 hsq9 rfl (opT_call (args := #[va0]) (first := #[]) (captured := #[]) en49 rfl rfl rfl (c_w_toBoolS p0a.2.1 _ e1 va0 ra0)) (List.Perm.refl _) rfl ?_
  rintro v1 aq10 wq10 - haq10 (hsq10 : St I w0 wq10 [Ch.own (rSlice 4 rBool) [v1] r1, Ch.blk g1 [.int .i64 p0a.1, va0, va1] 25, Ch.blk g3 [.int .i64 p0a.1, .slice none 0 0, .slice none 0 0] 27, Ch.blk g2 [.int .i64 0, .slice none 0 0, .slice none 0 0] 27, F])
  clear haq9 hsq9 aq9 wq9
  refine seq_op0 haq10 hsq10 (opT_field_addr (g := g3) (b := 0) tf27_1 rfl rfl) rfl rfl ?_
  rintro u aq11 wq11 hf haq11 hsq11
  obtain rfl := Eq.symm hf
  clear haq10 hsq10 aq10 wq10
  refine seq_op haq11 hsq11 rfl (opT_store_blk (g := g3) (off := 1) (l := [.int .i64 p0a.1, .slice none 0 0, .slice none 0 0]) (d := [v1]) (E := 27) (u := v1) ti22 rfl rfl rfl (Hd.cells (St.hd hsq11 0 rfl).1) rfl (allC (Hd.one (St.hd hsq11 0 rfl).1) allN) (Nat.le_of_ble_eq_true rfl)) (perm_front (i := 2) rfl) rfl ?_
  rintro _ aq12 wq12 - haq12 (hsq12 : St I w0 wq12 [Ch.blk g3 [.int .i64 p0a.1, v1, .slice none 0 0] 27, Ch.own (rSlice 4 rBool) [v1] r1, Ch.blk g1 [.int .i64 p0a.1, va0, va1] 25, Ch.blk g2 [.int .i64 0, .slice none 0 0, .slice none 0 0] 27, F])
  clear haq11 hsq11 aq11 wq11
  refine wpList_nil ?_
  replace haq12 := haq12.pick' (L' := [(1, .pointer (some ⟨g1, 0, none⟩)), (2, .pointer (some ⟨g2, 0, none⟩)), (3, .pointer (some ⟨g3, 0, none⟩))]) ⟨rfl, rfl, rfl, trivial⟩
  refine nrm ?_
  refine wp_seq ?_
  refine wp_region_lit ?_
  refine seq_op0 haq12 hsq12 (opT_field_addr (g := g1) (b := 0) tf25_2 rfl rfl) rfl rfl ?_
  rintro u aq13 wq13 hf haq13 hsq13
  obtain rfl := Eq.symm hf
  clear haq12 hsq12 aq12 wq12
  refine seq_op haq13 hsq13 rfl (opT_load_blk (g := g1) (off := 2) (E := 25) (l := [.int .i64 p0a.1, va0, va1]) (d := [va1]) (u := va1) ti23 rfl rfl rfl rfl rfl rfl) (perm_front (i := 2) rfl) rfl ?_
  rintro u aq14 wq14 hf haq14 (hsq14 : St I w0 wq14 [Ch.blk g1 [.int .i64 p0a.1, va0, va1] 25, Ch.blk g3 [.int .i64 p0a.1, v1, .slice none 0 0] 27, Ch.own (rSlice 4 rBool) [v1] r1, Ch.blk g2 [.int .i64 0, .slice none 0 0, .slice none 0 0] 27, F])
  obtain rfl := Eq.symm hf
  clear haq13 hsq13 aq13 wq13
  obtain ⟨r2, e2, hm⟩ := bind_some hm
  refine seq_op haq14 hsq14 rfl (opT_call (args := #[va1]) (first := #[]) (captured := #[]) en50 rfl rfl rfl (c_w_toIntSS p0a.2.2 _ e2 va1 ra1)) (List.Perm.refl _) rfl ?_
  rintro v2 aq15 wq15 - haq15 (hsq15 : St I w0 wq15 [Ch.own (rSlice 34 (rSlice 3 rInt)) [v2] r2, Ch.blk g1 [.int .i64 p0a.1, va0, va1] 25, Ch.blk g3 [.int .i64 p0a.1, v1, .slice none 0 0] 27, Ch.own (rSlice 4 rBool) [v1] r1, Ch.blk g2 [.int .i64 0, .slice none 0 0, .slice none 0 0] 27, F])
  clear haq14 hsq14 aq14 wq14
  refine seq_op0 haq15 hsq15 (opT_field_addr (g := g3) (b := 0) tf27_2 rfl rfl) rfl rfl ?_
  rintro u aq16 wq16 hf haq16 hsq16
  obtain rfl := Eq.symm hf
  clear haq15 hsq15 aq15 wq15
  refine seq_op haq16 hsq16 rfl (opT_store_blk (g := g3) (off := 2) (l := [.int .i64 p0a.1, v1, .slice none 0 0]) (d := [v2]) (E := 27) (u := v2) ti23 rfl rfl rfl (Hd.cells (St.hd hsq16 0 rfl).1) rfl (allC (Hd.one (St.hd hsq16 0 rfl).1) allN) (Nat.le_of_ble_eq_true rfl)) (perm_front (i := 2) rfl) rfl ?_
  rintro _ aq17 wq17 - haq17 (hsq17 : St I w0 wq17 [Ch.blk g3 [.int .i64 p0a.1, v1, v2] 27, Ch.own (rSlice 34 (rSlice 3 rInt)) [v2] r2, Ch.blk g1 [.int .i64 p0a.1, va0, va1] 25, Ch.own (rSlice 4 rBool) [v1] r1, Ch.blk g2 [.int .i64 0, .slice none 0 0, .slice none 0 0] 27, F])
  clear haq16 hsq16 aq16 wq16
  refine wpList_nil ?_
  replace haq17 := haq17.pick' (L' := [(2, .pointer (some ⟨g2, 0, none⟩)), (3, .pointer (some ⟨g3, 0, none⟩))]) ⟨rfl, rfl, trivial⟩
  refine nrm ?_
  refine wp_seq ?_
  refine wp_region_lit ?_
  refine seq_op haq17 hsq17 rfl (opT_load_blk (g := g3) (off := 0) (E := 27) (l := [.int .i64 p0a.1, v1, v2]) (d := [.int .i64 p0a.1, v1, v2]) (u := .agg #[.int .i64 p0a.1, v1, v2]) ti27 rfl rfl rfl rfl rfl rfl) (perm_front (i := 0) rfl) rfl ?_
  rintro u aq18 wq18 hf haq18 (hsq18 : St I w0 wq18 [Ch.blk g3 [.int .i64 p0a.1, v1, v2] 27, Ch.own (rSlice 34 (rSlice 3 rInt)) [v2] r2, Ch.blk g1 [.int .i64 p0a.1, va0, va1] 25, Ch.own (rSlice 4 rBool) [v1] r1, Ch.blk g2 [.int .i64 0, .slice none 0 0, .slice none 0 0] 27, F])
  obtain rfl := Eq.symm hf
  clear haq17 hsq17 aq17 wq17
  refine seq_op haq18 hsq18 rfl (opT_store_blk (g := g2) (off := 0) (l := [.int .i64 0, .slice none 0 0, .slice none 0 0]) (d := [.int .i64 p0a.1, v1, v2]) (E := 27) (u := .agg #[.int .i64 p0a.1, v1, v2]) ti27 rfl rfl rfl rfl rfl (allC rfl (allC (Hd.one (St.hd hsq18 3 rfl).1) (allC (Hd.one (St.hd hsq18 1 rfl).1) allN))) (Nat.le_of_ble_eq_true rfl)) (perm_front (i := 4) rfl) rfl ?_
  rintro _ aq19 wq19 - haq19 (hsq19 : St I w0 wq19 [Ch.blk g2 [.int .i64 p0a.1, v1, v2] 27, Ch.blk g3 [.int .i64 p0a.1, v1, v2] 27, Ch.own (rSlice 34 (rSlice 3 rInt)) [v2] r2, Ch.blk g1 [.int .i64 p0a.1, va0, va1] 25, Ch.own (rSlice 4 rBool) [v1] r1, F])
  clear haq18 hsq18 aq18 wq18
  refine wpList_nil ?_
  replace haq19 := haq19.pick' (L' := [(2, .pointer (some ⟨g2, 0, none⟩))]) ⟨rfl, trivial⟩
  refine nrm ?_
  refine wp_ret ?_
  obtain rfl := Option.some.inj hm
  exact ret_1 haq19 rfl (res_cell (g := g2) haq19 rfl hsq19 0 rfl ti27 rfl) ⟨_, rfl, ⟨_, _, rfl⟩, _, Hp.le.rfl, St.sel (hsq19) 6 [4, 2, 5] rfl rfl⟩
set_option maxHeartbeats 8000000 in
theorem c_w_eqGraph (p0a : (List Int) × (List (Int × Int × Int × Int))) (p1b : (List Int) × (List (Int × Int × Int × Int))) (r : Bool) (hm : m_w_eqGraph p0a p1b = some r) {I : Hp} {w0 : World} (va0 : Value) (va1 : Value) (va2 : Value) (va3 : Value) (ra0 : (rSlice 3 rInt).rd I [va0] p0a.1) (ra1 : (rSlice 126 (rProd rInt (rProd rInt (rProd rInt rInt)))).rd I [va1] p0a.2) (ra2 : (rSlice 3 rInt).rd I [va2] p1b.1) (ra3 : (rSlice 126 (rProd rInt (rProd rInt (rProd rInt rInt)))).rd I [va3] p1b.2) : Con Try.prog 29 #[.agg #[va0, va1], .agg #[va2, va3]] I w0 [] (fun v => v = .bool r) (fun v => []) := by
  refine con_of_wp (n := 17) [(0, .agg #[va0, va1]), (1, .agg #[va2, va3])] Try.func29 rfl rfl (Nat.le_of_ble_eq_true rfl) (args_all ⟨rfl, rfl, trivial⟩) (fun F w a ha hs => ?_) (fun v => trivial)
  unfold m_w_eqGraph at hm
  refine wp_seq ?_
  refine wp_region_lit ?_
  refine seq_op ha hs rfl (opT_box (u := .agg #[va0, va1]) (l := [va0, va1]) rfl rfl rfl) (List.Perm.refl _) rfl ?_
  rintro _ aq1 wq1 ⟨g1, rfl⟩ haq1 (hsq1 : St I w0 wq1 [Ch.blk g1 [va0, va1] 45, F])
  clear ha hs a w
  refine seq_op haq1 hsq1 rfl (opT_box (u := .agg #[va2, va3]) (l := [va2, va3]) rfl rfl rfl) (List.Perm.refl _) rfl ?_
  rintro _ aq2 wq2 ⟨g2, rfl⟩ haq2 (hsq2 : St I w0 wq2 [Ch.blk g2 [va2, va3] 45, Ch.blk g1 [va0, va1] 45, F])
  clear haq1 hsq1 aq1 wq1
  refine seq_op0 haq2 hsq2 (opT_assign (v := .bool false) rfl rfl) rfl rfl ?_
  rintro u aq3 wq3 hf haq3 hsq3
  obtain rfl := Eq.symm hf
  clear haq2 hsq2 aq2 wq2
  refine wpList_nil ?_
  replace haq3 := haq3.pick' (L' := [(2, .pointer (some ⟨g1, 0, none⟩)), (3, .pointer (some ⟨g2, 0, none⟩))]) ⟨rfl, rfl, trivial⟩
  refine nrm ?_
  refine wp_seq ?_
  refine wp_seq ?_
  refine wp_region_lit ?_
  refine seq_op0 haq3 hsq3 (opT_field_addr (g := g1) (b := 0) tf45_0 rfl rfl) rfl rfl ?_
  rintro u aq4 wq4 hf haq4 hsq4
  obtain rfl := Eq.symm hf
  clear haq3 hsq3 aq3 wq3
  refine seq_op haq4 hsq4 rfl (opT_load_blk (g := g1) (off := 0) (E := 45) (l := [va0, va1]) (d := [va0]) (u := va0) ti34 rfl rfl rfl rfl rfl rfl) (perm_front (i := 1) rfl) rfl ?_
  rintro u aq5 wq5 hf haq5 (hsq5 : St I w0 wq5 [Ch.blk g1 [va0, va1] 45, Ch.blk g2 [va2, va3] 45, F])
  obtain rfl := Eq.symm hf
  clear haq4 hsq4 aq4 wq4
  refine seq_op0 haq5 hsq5 (opT_field_addr (g := g2) (b := 0) tf45_0 rfl rfl) rfl rfl ?_
  rintro u aq6 wq6 hf haq6 hsq6
  obtain rfl := Eq.symm hf
  clear haq5 hsq5 aq5 wq5
  refine seq_op haq6 hsq6 rfl (opT_load_blk (g := g2) (off := 0) (E := 45) (l := [va2, va3]) (d := [va2]) (u := va2) ti34 rfl rfl rfl rfl rfl rfl) (perm_front (i := 1) rfl) rfl ?_
  rintro u aq7 wq7 hf haq7 (hsq7 : St I w0 wq7 [Ch.blk g2 [va2, va3] 45, Ch.blk g1 [va0, va1] 45, F])
  obtain rfl := Eq.symm hf
  clear haq6 hsq6 aq6 wq6
  obtain ⟨r1, e1, hm⟩ := bind_some hm
  refine seq_op0 haq7 hsq7 (opT_call (args := #[va0, va2]) (first := #[]) (captured := #[]) en69 rfl rfl rfl (c_w_eqIntS p0a.1 p1b.1 _ e1 va0 va2 ra0 ra2)) rfl rfl ?_
  rintro u aq8 wq8 hf haq8 hsq8
  obtain rfl := Eq.symm hf
  clear haq7 hsq7 aq7 wq7
  refine seq_op0 haq8 hsq8 (opT_not (b := r1) rfl rfl) rfl rfl ?_
  rintro u aq9 wq9 hf haq9 hsq9
  obtain rfl := Eq.symm hf
  clear haq8 hsq8 aq8 wq8
  refine wpList_nil ?_
  replace haq9 := haq9.pick' (L' := [(2, .pointer (some ⟨g1, 0, none⟩)), (3, .pointer (some ⟨g2, 0, none⟩)), (10, .bool (!r1))]) ⟨rfl, rfl, rfl, trivial⟩
  refine nrm ?_
  rcases two (r1) with hb1 | hb1
  · replace hm := ifFe hb1 hm
    refine cnd_true (b := !r1) haq9 rfl rfl (notT hb1) ?_
    refine wp_seq ?_
    refine wp_region_lit ?_
    refine seq_op0 haq9 hsq9 (opT_assign (v := .bool false) rfl rfl) rfl rfl ?_
    rintro u aq10 wq10 hf haq10 hsq10
    obtain rfl := Eq.symm hf
    clear haq9 hsq9 aq9 wq9
    refine wpList_nil ?_
    replace haq10 := haq10.pick' (L' := [(4, .bool false)]) ⟨rfl, trivial⟩
    refine nrm ?_
    refine wp_ret ?_
    refine thenR ?_
    obtain rfl := Option.some.inj hm
    exact ret_1 haq10 rfl (res_tmp haq10 rfl) ⟨_, rfl, rfl, _, Hp.le.rfl, St.sel (hsq10) 3 [2] rfl rfl⟩
  · replace hm := ifTe hb1 hm
    refine cnd_false (b := !r1) haq9 rfl rfl (notF hb1) ?_
    refine wp_skip ?_
    refine nrm ?_
    refine wp_seq ?_
    refine wp_seq ?_
    refine wp_region_lit ?_
    refine seq_op0 haq9 hsq9 (opT_field_addr (g := g1) (b := 0) tf45_1 rfl rfl) rfl rfl ?_
    rintro u aq11 wq11 hf haq11 hsq11
    obtain rfl := Eq.symm hf
    clear haq9 hsq9 aq9 wq9
    refine seq_op haq11 hsq11 rfl (opT_load_blk (g := g1) (off := 1) (E := 45) (l := [va0, va1]) (d := [va1]) (u := va1) ti43 rfl rfl rfl rfl rfl rfl) (perm_front (i := 1) rfl) rfl ?_
    rintro u aq12 wq12 hf haq12 (hsq12 : St I w0 wq12 [Ch.blk g1 [va0, va1] 45, Ch.blk g2 [va2, va3] 45, F])
    obtain rfl := Eq.symm hf
    clear haq11 hsq11 aq11 wq11
    refine seq_op0 haq12 hsq12 (opT_field_addr (g := g2) (b := 0) tf45_1 rfl rfl) rfl rfl ?_
    rintro u aq13 wq13 hf haq13 hsq13
    obtain rfl := Eq.symm hf
    clear haq12 hsq12 aq12 wq12
    refine seq_op haq13 hsq13 rfl (opT_load_blk (g := g2) (off := 1) (E := 45) (l := [va2, va3]) (d := [va3]) (u := va3) ti43 rfl rfl rfl rfl rfl rfl) (perm_front (i := 1) rfl) rfl ?_
    rintro u aq14 wq14 hf haq14 (hsq14 : St I w0 wq14 [Ch.blk g2 [va2, va3] 45, Ch.blk g1 [va0, va1] 45, F])
    obtain rfl := Eq.symm hf
    clear haq13 hsq13 aq13 wq13
    obtain ⟨r2, e2, hm⟩ := bind_some hm
    refine seq_op0 haq14 hsq14 (opT_call (args := #[va1, va3]) (first := #[]) (captured := #[]) en70 rfl rfl rfl (c_w_eqEdgeS p0a.2 p1b.2 _ e2 va1 va3 ra1 ra3)) rfl rfl ?_
    rintro u aq15 wq15 hf haq15 hsq15
    obtain rfl := Eq.symm hf
    clear haq14 hsq14 aq14 wq14
    refine seq_op0 haq15 hsq15 (opT_not (b := r2) rfl rfl) rfl rfl ?_
    rintro u aq16 wq16 hf haq16 hsq16
    obtain rfl := Eq.symm hf
    clear haq15 hsq15 aq15 wq15
    refine wpList_nil ?_
    replace haq16 := haq16.pick' (L' := [(16, .bool (!r2))]) ⟨rfl, trivial⟩
    refine nrm ?_
    rcases two (r2) with hb2 | hb2
    · replace hm := ifFe hb2 hm
      refine cnd_true (b := !r2) haq16 rfl rfl (notT hb2) ?_
      refine wp_seq ?_
      refine wp_region_lit ?_
      refine seq_op0 haq16 hsq16 (opT_assign (v := .bool false) rfl rfl) rfl rfl ?_
      rintro u aq17 wq17 hf haq17 hsq17
      obtain rfl := Eq.symm hf
      clear haq16 hsq16 aq16 wq16
      refine wpList_nil ?_
      replace haq17 := haq17.pick' (L' := [(4, .bool false)]) ⟨rfl, trivial⟩
      refine nrm ?_
      refine wp_ret ?_
      refine thenR ?_
      obtain rfl := Option.some.inj hm
      exact ret_1 haq17 rfl (res_tmp haq17 rfl) ⟨_, rfl, rfl, _, Hp.le.rfl, St.sel (hsq17) 3 [2] rfl rfl⟩
    · replace hm := ifTe hb2 hm
      refine cnd_false (b := !r2) haq16 rfl rfl (notF hb2) ?_
      refine wp_skip ?_
      refine nrm ?_
      refine wp_seq ?_
      refine wp_region_lit ?_
      refine seq_op0 haq16 hsq16 (opT_assign (v := .bool true) rfl rfl) rfl rfl ?_
      rintro u aq18 wq18 hf haq18 hsq18
      obtain rfl := Eq.symm hf
      clear haq16 hsq16 aq16 wq16
      refine wpList_nil ?_
      replace haq18 := haq18.pick' (L' := [(4, .bool true)]) ⟨rfl, trivial⟩
      refine nrm ?_
      refine wp_ret ?_
      obtain rfl := Option.some.inj hm
      exact ret_1 haq18 rfl (res_tmp haq18 rfl) ⟨_, rfl, rfl, _, Hp.le.rfl, St.sel (hsq18) 3 [2] rfl rfl⟩
set_option maxHeartbeats 8000000 in
theorem c_w_eqExpr (p0a : (List (Int × Int × Int × Int))) (p1b : (List (Int × Int × Int × Int))) (r : Bool) (hm : m_w_eqExpr p0a p1b = some r) {I : Hp} {w0 : World} (va0 : Value) (va1 : Value) (ra0 : (rSlice 197 (rProd rInt (rProd rInt (rProd rInt rInt)))).rd I [va0] p0a) (ra1 : (rSlice 197 (rProd rInt (rProd rInt (rProd rInt rInt)))).rd I [va1] p1b) : Con Try.prog 186 #[.agg #[va0], .agg #[va1]] I w0 [] (fun v => v = .bool r) (fun v => []) := by
  refine con_of_wp (n := 11) [(0, .agg #[va0]), (1, .agg #[va1])] Try.func186 rfl rfl (Nat.le_of_ble_eq_true rfl) (args_all ⟨rfl, rfl, trivial⟩) (fun F w a ha hs => ?_) (fun v => trivial)
  unfold m_w_eqExpr at hm
  refine wp_seq ?_
  refine wp_region_lit ?_
  refine seq_op ha hs rfl (opT_box (u := .agg #[va0]) (l := [va0]) rfl rfl rfl) (List.Perm.refl _) rfl ?_
  rintro _ aq1 wq1 ⟨g1, rfl⟩ haq1 (hsq1 : St I w0 wq1 [Ch.blk g1 [va0] 145, F])
  clear ha hs a w
  refine seq_op haq1 hsq1 rfl (opT_box (u := .agg #[va1]) (l := [va1]) rfl rfl rfl) (List.Perm.refl _) rfl ?_
  rintro _ aq2 wq2 ⟨g2, rfl⟩ haq2 (hsq2 : St I w0 wq2 [Ch.blk g2 [va1] 145, Ch.blk g1 [va0] 145, F])
  clear haq1 hsq1 aq1 wq1
  refine seq_op0 haq2 hsq2 (opT_assign (v := .bool false) rfl rfl) rfl rfl ?_
  rintro u aq3 wq3 hf haq3 hsq3
  obtain rfl := Eq.symm hf
  clear haq2 hsq2 aq2 wq2
  refine wpList_nil ?_
  replace haq3 := haq3.pick' (L' := [(2, .pointer (some ⟨g1, 0, none⟩)), (3, .pointer (some ⟨g2, 0, none⟩))]) ⟨rfl, rfl, trivial⟩
  refine nrm ?_
  refine wp_seq ?_
  refine wp_seq ?_
  refine wp_region_lit ?_
  refine seq_op0 haq3 hsq3 (opT_field_addr (g := g1) (b := 0) tf145_0 rfl rfl) rfl rfl ?_
  rintro u aq4 wq4 hf haq4 hsq4
  obtain rfl := Eq.symm hf
  clear haq3 hsq3 aq3 wq3
  refine seq_op haq4 hsq4 rfl (opT_load_blk (g := g1) (off := 0) (E := 145) (l := [va0]) (d := [va0]) (u := va0) ti143 rfl rfl rfl rfl rfl rfl) (perm_front (i := 1) rfl) rfl ?_
  rintro u aq5 wq5 hf haq5 (hsq5 : St I w0 wq5 [Ch.blk g1 [va0] 145, Ch.blk g2 [va1] 145, F])
  obtain rfl := Eq.symm hf
  clear haq4 hsq4 aq4 wq4
  refine seq_op0 haq5 hsq5 (opT_field_addr (g := g2) (b := 0) tf145_0 rfl rfl) rfl rfl ?_
  rintro u aq6 wq6 hf haq6 hsq6
  obtain rfl := Eq.symm hf
  clear haq5 hsq5 aq5 wq5
  refine seq_op haq6 hsq6 rfl (opT_load_blk (g := g2) (off := 0) (E := 145) (l := [va1]) (d := [va1]) (u := va1) ti143 rfl rfl rfl rfl rfl rfl) (perm_front (i := 1) rfl) rfl ?_
  rintro u aq7 wq7 hf haq7 (hsq7 : St I w0 wq7 [Ch.blk g2 [va1] 145, Ch.blk g1 [va0] 145, F])
  obtain rfl := Eq.symm hf
  clear haq6 hsq6 aq6 wq6
  obtain ⟨r1, e1, hm⟩ := bind_some hm
  refine seq_op0 haq7 hsq7 (opT_call (args := #[va0, va1]) (first := #[]) (captured := #[]) en192 rfl rfl rfl (c_w_eqTokenS p0a p1b _ e1 va0 va1 ra0 ra1)) rfl rfl ?_
  rintro u aq8 wq8 hf haq8 hsq8
  obtain rfl := Eq.symm hf
  clear haq7 hsq7 aq7 wq7
  refine seq_op0 haq8 hsq8 (opT_not (b := r1) rfl rfl) rfl rfl ?_
  rintro u aq9 wq9 hf haq9 hsq9
  obtain rfl := Eq.symm hf
  clear haq8 hsq8 aq8 wq8
  refine wpList_nil ?_
  replace haq9 := haq9.pick' (L' := [(10, .bool (!r1))]) ⟨rfl, trivial⟩
  refine nrm ?_
  rcases two (r1) with hb1 | hb1
  · replace hm := ifFe hb1 hm
    refine cnd_true (b := !r1) haq9 rfl rfl (notT hb1) ?_
    refine wp_seq ?_
    refine wp_region_lit ?_
    refine seq_op0 haq9 hsq9 (opT_assign (v := .bool false) rfl rfl) rfl rfl ?_
    rintro u aq10 wq10 hf haq10 hsq10
    obtain rfl := Eq.symm hf
    clear haq9 hsq9 aq9 wq9
    refine wpList_nil ?_
    replace haq10 := haq10.pick' (L' := [(4, .bool false)]) ⟨rfl, trivial⟩
    refine nrm ?_
    refine wp_ret ?_
    refine thenR ?_
    obtain rfl := Option.some.inj hm
    exact ret_1 haq10 rfl (res_tmp haq10 rfl) ⟨_, rfl, rfl, _, Hp.le.rfl, St.sel (hsq10) 3 [2] rfl rfl⟩
  · replace hm := ifTe hb1 hm
    refine cnd_false (b := !r1) haq9 rfl rfl (notF hb1) ?_
    refine wp_skip ?_
    refine nrm ?_
    refine wp_seq ?_
    refine wp_region_lit ?_
    refine seq_op0 haq9 hsq9 (opT_assign (v := .bool true) rfl rfl) rfl rfl ?_
    rintro u aq11 wq11 hf haq11 hsq11
    obtain rfl := Eq.symm hf
    clear haq9 hsq9 aq9 wq9
    refine wpList_nil ?_
    replace haq11 := haq11.pick' (L' := [(4, .bool true)]) ⟨rfl, trivial⟩
    refine nrm ?_
    refine wp_ret ?_
    obtain rfl := Option.some.inj hm
    exact ret_1 haq11 rfl (res_tmp haq11 rfl) ⟨_, rfl, rfl, _, Hp.le.rfl, St.sel (hsq11) 3 [2] rfl rfl⟩
end Go.Proofs.Ytcihbmdppgpmjaa.D
