/- Printed by dec.py: models of functions and the walks that show them. -/
import Derived.Test.YtcihbmdppgpmjaaEw0_0
import Derived.Test.YtcihbmdppgpmjaaEw0_1
import Derived.Test.YtcihbmdppgpmjaaEw0_2
import Derived.Test.YtcihbmdppgpmjaaEw0_3
set_option linter.unusedVariables false
set_option linter.unusedSimpArgs false
set_option linter.unnecessarySimpa false
set_option maxRecDepth 100000
namespace Go.Proofs.Ytcihbmdppgpmjaa.D
open Go.RowKit
set_option maxHeartbeats 8000000 in
theorem c_s_EqualGraphs (p0a : (List Int) × (List (Int × Int × Int × Int))) (p1b : (List Int) × (List (Int × Int × Int × Int))) (r : Bool) (hm : m_s_EqualGraphs p0a p1b = some r) {I : Hp} {w0 : World} (va0 : Value) (va1 : Value) (va2 : Value) (va3 : Value) (ra0 : (rSlice 3 rInt).rd I [va0] p0a.1) (ra1 : (rSlice 126 (rProd rInt (rProd rInt (rProd rInt rInt)))).rd I [va1] p0a.2) (ra2 : (rSlice 3 rInt).rd I [va2] p1b.1) (ra3 : (rSlice 126 (rProd rInt (rProd rInt (rProd rInt rInt)))).rd I [va3] p1b.2) : Con Try.prog 131 #[.agg #[va0, va1], .agg #[va2, va3]] I w0 [] (fun v => v = .bool r) (fun v => []) := by
  refine con_of_wp (n := 39) [(0, .agg #[va0, va1]), (1, .agg #[va2, va3])] Try.func131 rfl rfl (Nat.le_of_ble_eq_true rfl) (args_all ⟨rfl, rfl, trivial⟩) (fun F w a ha hs => ?_) (fun v => trivial)
  unfold m_s_EqualGraphs at hm
  refine wp_seq ?_
  refine wp_region_lit ?_
  refine seq_op ha hs rfl (opT_box (u := .agg #[va0, va1]) (l := [va0, va1]) rfl rfl rfl) (List.Perm.refl _) rfl ?_
  rintro _ aq1 wq1 ⟨g1, rfl⟩ haq1 (hsq1 : St I w0 wq1 [Ch.blk g1 [va0, va1] 45, F])
  clear ha hs a w
  refine seq_op haq1 hsq1 rfl (opT_box (u := .agg #[va2, va3]) (l := [va2, va3]) rfl rfl rfl) (List.Perm.refl _) rfl ?_
  rintro _ aq2 wq2 ⟨g2, rfl⟩ haq2 (hsq2 : St I w0 wq2 [Ch.blk g2 [va2, va3] 45, Ch.blk g1 [va0, va1] 45, F])
  clear haq1 hsq1 aq1 wq1
  refine seq_op0 haq2 hsq2 (opT_assign (v := .bool false) rfl rfl) rfl rfl ?_
  rintro u aq3 wq3 hf haq3 hsq3
  obtain rfl := Eq.symm hf
  clear haq2 hsq2 aq2 wq2
  refine wpList_nil ?_
  replace haq3 := haq3.pick' (L' := [(2, .pointer (some ⟨g1, 0, none⟩)), (3, .pointer (some ⟨g2, 0, none⟩))]) ⟨rfl, rfl, trivial⟩
  refine nrm ?_
  refine wp_seq ?_
  refine wp_seq ?_
  refine wp_region_lit ?_
  refine seq_op0 haq3 hsq3 (opT_field_addr (g := g1) (b := 0) tf45_0 rfl rfl) rfl rfl ?_
  rintro u aq4 wq4 hf haq4 hsq4
  obtain rfl := Eq.symm hf
  clear haq3 hsq3 aq3 wq3
  refine seq_op haq4 hsq4 rfl (opT_load_blk (g := g1) (off := 0) (E := 45) (l := [va0, va1]) (d := [va0]) (u := va0) ti34 rfl rfl rfl rfl rfl rfl) (perm_front (i := 1) rfl) rfl ?_
  rintro u aq5 wq5 hf haq5 (hsq5 : St I w0 wq5 [Ch.blk g1 [va0, va1] 45, Ch.blk g2 [va2, va3] 45, F])
  obtain rfl := Eq.symm hf
  clear haq4 hsq4 aq4 wq4
  refine seq_op0 haq5 hsq5 (opT_field_addr (g := g2) (b := 0) tf45_0 rfl rfl) rfl rfl ?_
  rintro u aq6 wq6 hf haq6 hsq6
  obtain rfl := Eq.symm hf
  clear haq5 hsq5 aq5 wq5
  refine seq_op haq6 hsq6 rfl (opT_load_blk (g := g2) (off := 0) (E := 45) (l := [va2, va3]) (d := [va2]) (u := va2) ti34 rfl rfl rfl rfl rfl rfl) (perm_front (i := 1) rfl) rfl ?_
  rintro u aq7 wq7 hf haq7 (hsq7 : St I w0 wq7 [Ch.blk g2 [va2, va3] 45, Ch.blk g1 [va0, va1] 45, F])
  obtain rfl := Eq.symm hf
  clear haq6 hsq6 aq6 wq6
  obtain ⟨r1, e1, hm⟩ := bind_some hm
  refine seq_op0 haq7 hsq7 (opT_call (args := #[va0, va2]) (first := #[]) (captured := #[]) en104 rfl rfl rfl (c_s_l2Cmp p0a.1 p1b.1 _ e1 va0 va2 ra0 ra2)) rfl rfl ?_
  rintro u aq8 wq8 hf haq8 hsq8
  obtain rfl := Eq.symm hf
  clear haq7 hsq7 aq7 wq7
  refine seq_op0 haq8 hsq8 (opT_cmp (k := .i64) (m := r1) (n := 0) (c := r1 != 0) rfl rfl rfl rfl rfl) rfl rfl ?_
  rintro u aq9 wq9 hf haq9 hsq9
  obtain rfl := Eq.symm hf
  clear haq8 hsq8 aq8 wq8
  refine seq_op0 haq9 hsq9 (opT_move (v := .bool (r1 != 0)) rfl rfl) rfl rfl ?_
  rintro u aq10 wq10 hf haq10 hsq10
  obtain rfl := Eq.symm hf
  clear haq9 hsq9 aq9 wq9
  rcases two (r1 != 0) with hb1 | hb1
  · replace hm := ifFe hb1 hm
    refine seq_op_g0 (g := 6) (d := 12) (want := false) (b := r1 != 0) haq10 hsq10 rfl rfl rfl hb1 (opT_field_addr (g := g1) (b := 0) tf45_1 rfl rfl) rfl ?_
    rintro u aq11 wq11 hf haq11 hsq11
    obtain rfl := Eq.symm hf
    clear haq10 hsq10 aq10 wq10
    refine seq_op_g (g := 6) (d := 12) (want := false) (b := r1 != 0) haq11 hsq11 rfl rfl rfl hb1 (opT_load_blk (g := g1) (off := 1) (E := 45) (l := [va0, va1]) (d := [va1]) (u := va1) ti43 rfl rfl rfl rfl rfl rfl) (perm_front (i := 1) rfl) rfl ?_
    rintro u aq12 wq12 hf haq12 (hsq12 : St I w0 wq12 [Ch.blk g1 [va0, va1] 45, Ch.blk g2 [va2, va3] 45, F])
    obtain rfl := Eq.symm hf
    clear haq11 hsq11 aq11 wq11
    refine seq_op_g0 (g := 6) (d := 12) (want := false) (b := r1 != 0) haq12 hsq12 rfl rfl rfl hb1 (opT_len_hd (v := va1) (n := p0a.2.length) (Hd.of_rd ra1) Try.underlying43 rfl rfl) rfl ?_
    rintro u aq13 wq13 hf haq13 hsq13
    obtain rfl := Eq.symm hf
    clear haq12 hsq12 aq12 wq12
    refine seq_op_g0 (g := 6) (d := 12) (want := false) (b := r1 != 0) haq13 hsq13 rfl rfl rfl hb1 (opT_field_addr (g := g2) (b := 0) tf45_1 rfl rfl) rfl ?_
    rintro u aq14 wq14 hf haq14 hsq14
    obtain rfl := Eq.symm hf
    clear haq13 hsq13 aq13 wq13
    refine seq_op_g (g := 6) (d := 12) (want := false) (b := r1 != 0) haq14 hsq14 rfl rfl rfl hb1 (opT_load_blk (g := g2) (off := 1) (E := 45) (l := [va2, va3]) (d := [va3]) (u := va3) ti43 rfl rfl rfl rfl rfl rfl) (perm_front (i := 1) rfl) rfl ?_
    rintro u aq15 wq15 hf haq15 (hsq15 : St I w0 wq15 [Ch.blk g2 [va2, va3] 45, Ch.blk g1 [va0, va1] 45, F])
    obtain rfl := Eq.symm hf
    clear haq14 hsq14 aq14 wq14
    refine seq_op_g0 (g := 6) (d := 12) (want := false) (b := r1 != 0) haq15 hsq15 rfl rfl rfl hb1 (opT_len_hd (v := va3) (n := p1b.2.length) (Hd.of_rd ra3) Try.underlying43 rfl rfl) rfl ?_
    rintro u aq16 wq16 hf haq16 hsq16
    obtain rfl := Eq.symm hf
    clear haq15 hsq15 aq15 wq15
    refine seq_op_g0 (g := 6) (d := 12) (want := false) (b := r1 != 0) haq16 hsq16 rfl rfl rfl hb1 (opT_cmp (k := .i64) (m := (p0a.2.length : Int)) (n := (p1b.2.length : Int)) (c := (p0a.2.length : Int) != (p1b.2.length : Int)) rfl rfl rfl rfl rfl) rfl ?_
    rintro u aq17 wq17 hf haq17 hsq17
    obtain rfl := Eq.symm hf
    clear haq16 hsq16 aq16 wq16
    refine seq_op0 haq17 hsq17 (opT_pick (b := r1 != 0) (v := .bool ((p0a.2.length : Int) != (p1b.2.length : Int))) rfl rfl (ifF hb1)) rfl rfl ?_
    rintro u aq18 wq18 hf haq18 hsq18
    obtain rfl := Eq.symm hf
    clear haq17 hsq17 aq17 wq17
    refine wpList_nil ?_
    replace haq18 := haq18.pick' (L' := [(2, .pointer (some ⟨g1, 0, none⟩)), (3, .pointer (some ⟨g2, 0, none⟩)), (20, .bool ((p0a.2.length : Int) != (p1b.2.length : Int)))]) ⟨rfl, rfl, rfl, trivial⟩
    refine nrm ?_
    rcases two ((p0a.2.length : Int) != (p1b.2.length : Int)) with hb2 | hb2
    · replace hm := ifFe hb2 hm
      refine cnd_false (b := (p0a.2.length : Int) != (p1b.2.length : Int)) haq18 rfl rfl hb2 ?_
      refine wp_skip ?_
      refine nrm ?_
      refine wp_seq ?_
      refine wp_seq ?_
      refine wp_region_lit ?_
      refine seq_op0 haq18 hsq18 (opT_assign (v := .int .i64 0) rfl rfl) rfl rfl ?_
      rintro u aq19 wq19 hf haq19 hsq19
      obtain rfl := Eq.symm hf
      clear haq18 hsq18 aq18 wq18
      refine wpList_nil ?_
      replace haq19 := haq19.pick' (L' := [(2, .pointer (some ⟨g1, 0, none⟩)), (3, .pointer (some ⟨g2, 0, none⟩)), (5, .int .i64 0)]) ⟨rfl, rfl, rfl, trivial⟩
      refine nrm ?_
      obtain ⟨o1, hl1, hc1⟩ := bindL_some hm
      refine wp_cut (fun a w => ∃ s4 : Int, o1 = .brk s4 ∧ Agr 39 a [] ∧ St I w0 w [F]) ?_ ?_
      · refine wp_block (wp_loopM (R := Bool) (S := Int) (fun s3 a w => Agr 39 a [(2, .pointer (some ⟨g1, 0, none⟩)), (3, .pointer (some ⟨g2, 0, none⟩)), (5, .int .i64 s3)] ∧ St I w0 w [Ch.blk g1 [va0, va1] 45, Ch.blk g2 [va2, va3] 45, F]) hl1 ?_ ?_)
        · exact ⟨haq19.pick' ⟨rfl, rfl, rfl, trivial⟩, St.sel hsq19 3 [1, 0, 2] rfl rfl⟩
        · rintro s3 o2 hm hf1 aq38 wq38 ⟨haq38, hsq38⟩
          unfold m_s_EqualGraphs_l0 at hm
          refine wp_seq ?_
          refine wp_seq ?_
          refine wp_region_lit ?_
          refine seq_op0 haq38 hsq38 (opT_move (v := .int .i64 s3) rfl rfl) rfl rfl ?_
          rintro u aq39 wq39 hf haq39 hsq39
          obtain rfl := Eq.symm hf
          clear haq38 hsq38 aq38 wq38
          refine seq_op0 haq39 hsq39 (opT_field_addr (g := g1) (b := 0) tf45_1 rfl rfl) rfl rfl ?_
          rintro u aq40 wq40 hf haq40 hsq40
          obtain rfl := Eq.symm hf
          clear haq39 hsq39 aq39 wq39
          refine seq_op haq40 hsq40 rfl (opT_load_blk (g := g1) (off := 1) (E := 45) (l := [va0, va1]) (d := [va1]) (u := va1) ti43 rfl rfl rfl rfl rfl rfl) (perm_front (i := 0) rfl) rfl ?_
          rintro u aq41 wq41 hf haq41 (hsq41 : St I w0 wq41 [Ch.blk g1 [va0, va1] 45, Ch.blk g2 [va2, va3] 45, F])
          obtain rfl := Eq.symm hf
          clear haq40 hsq40 aq40 wq40
          refine seq_op0 haq41 hsq41 (opT_len_hd (v := va1) (n := p0a.2.length) (Hd.of_rd ra1) Try.underlying43 rfl rfl) rfl rfl ?_
          rintro u aq42 wq42 hf haq42 hsq42
          obtain rfl := Eq.symm hf
          clear haq41 hsq41 aq41 wq41
          refine seq_op0 haq42 hsq42 (opT_cmp (k := .i64) (m := s3) (n := (p0a.2.length : Int)) (c := decide (s3 < (p0a.2.length : Int))) rfl rfl rfl rfl rfl) rfl rfl ?_
          rintro u aq43 wq43 hf haq43 hsq43
          obtain rfl := Eq.symm hf
          clear haq42 hsq42 aq42 wq42
          refine wpList_nil ?_
          replace haq43 := haq43.pick' (L' := [(2, .pointer (some ⟨g1, 0, none⟩)), (3, .pointer (some ⟨g2, 0, none⟩)), (5, .int .i64 s3), (25, .bool (decide (s3 < (p0a.2.length : Int))))]) ⟨rfl, rfl, rfl, rfl, trivial⟩
          refine nrm ?_
          rcases two (decide (s3 < (p0a.2.length : Int))) with hb7 | hb7
          · replace hm := ifFe hb7 hm
            refine cnd_false (b := decide (s3 < (p0a.2.length : Int))) haq43 rfl rfl hb7 ?_
            refine wp_exit ?_
            refine thenX ?_
            refine thenX ?_
            refine ex_in ?_
            refine nrm ?_
            exact ⟨_, loopBrk hm hf1, ⟨haq43.pick' trivial, St.sel hsq43 3 [2] rfl rfl⟩⟩
          · replace hm := ifTe hb7 hm
            refine cnd_true (b := decide (s3 < (p0a.2.length : Int))) haq43 rfl rfl hb7 ?_
            refine wp_skip ?_
            refine nrm ?_
            refine wp_seq ?_
            refine wp_block ?_
            refine wp_seq ?_
            obtain ⟨x5, e6, hm⟩ := bind_some hm
            obtain ⟨x6, e7, hm⟩ := bind_some hm
            refine wp_draw (L := [(2, .pointer (some ⟨g1, 0, none⟩)), (3, .pointer (some ⟨g2, 0, none⟩)), (5, .int .i64 s3), (25, .bool (decide (s3 < (p0a.2.length : Int))))]) (C := [F]) { ops := [⟨[], [], [], [0], fun | [xo0] => xo0 = .pointer (some ⟨g1, 1, none⟩) | _ => True, [(2, none)]⟩, ⟨[0], [], [], [1], fun | [xo1] => xo1 = va1 | _ => True, [(28, some 0)]⟩, ⟨[], [], [], [2], fun | [xo2] => xo2 = .int .i64 s3 | _ => True, [(5, none)]⟩, ⟨[], [], [], [3], fun | [xo3] => xo3 = pt va1 (s3.toNat * 4) | _ => True, [(29, some 1), (30, some 2)]⟩, ⟨[], [], [], [4], fun | [xo4] => xo4 = .agg #[.int .i64 x5.1, .int .i64 x5.2.1, .int .i64 x5.2.2.1, .int .i64 x5.2.2.2] | _ => True, [(31, some 3)]⟩, ⟨[], [], [], [5], fun | [xo5] => xo5 = .pointer (some ⟨g2, 1, none⟩) | _ => True, [(3, none)]⟩, ⟨[1], [], [], [6], fun | [xo6] => xo6 = va3 | _ => True, [(33, some 5)]⟩, ⟨[], [], [], [7], fun | [xo7] => xo7 = .int .i64 s3 | _ => True, [(5, none)]⟩, ⟨[], [], [], [8], fun | [xo8] => xo8 = pt va3 (s3.toNat * 4) | _ => True, [(34, some 6), (35, some 7)]⟩, ⟨[], [], [], [9], fun | [xo9] => xo9 = .agg #[.int .i64 x6.1, .int .i64 x6.2.1, .int .i64 x6.2.2.1, .int .i64 x6.2.2.2] | _ => True, [(36, some 8)]⟩, ⟨[], [], [], [10], fun | [xo10] => xo10 = .bool (!((x5.1 == x6.1) && ((x5.2.1 == x6.2.1) && ((x5.2.2.1 == x6.2.2.1) && ((x5.2.2.2 == x6.2.2.2) && true))))) | _ => True, [(32, some 4), (37, some 9)]⟩], res := [⟨[], fun _ => Ch.blk g1 [va0, va1] 45⟩, ⟨[], fun _ => Ch.blk g2 [va2, va3] 45⟩], base := [0, 1], pre := [[], [0], [], [0, 1, 2], [0, 1, 2, 3], [], [5], [], [5, 6, 7], [5, 6, 7, 8], [0, 1, 2, 3, 4, 5, 6, 7, 8, 9]], fin := [(2, none), (3, none), (5, none), (38, some 10)], left := [0, 1] } (by kernel_rfl) haq43 hsq43 (perm_sel [0, 1, 2] (m := 3) rfl rfl) (by kernel_rfl) (by kernel_rfl) ?_ ?_
            · exact ⟨Plan.goal_run fun vs hf => ⟨wants_none rfl, OpT.conv (OpT.evs (ev' := evL [(2, .pointer (some ⟨g1, 0, none⟩))]) (opT_field_addr (g := g1) (b := 0) tf45_1 rfl rfl) rfl [.tmp 2] rfl ⟨rfl, trivial⟩) rfl (fun _ h => Eq.trans h rfl) (fun _ => rfl)⟩, Plan.goal_run fun vs hf => ⟨wants_none rfl, OpT.conv (OpT.evs (ev' := evL [(28, .pointer (some ⟨g1, 1, none⟩))]) (opT_load_blk (g := g1) (off := 1) (E := 45) (l := [va0, va1]) (d := [va1]) (u := va1) ti43 rfl rfl rfl rfl rfl rfl) rfl [.tmp 28] rfl ⟨(hf 0 (mb rfl)), trivial⟩) rfl (fun _ h => Eq.trans h rfl) (fun _ => rfl)⟩, Plan.goal_run fun vs hf => ⟨wants_none rfl, OpT.conv (OpT.evs (ev' := evL [(5, .int .i64 s3)]) (opT_move (v := .int .i64 s3) rfl rfl) rfl [.tmp 5] rfl ⟨rfl, trivial⟩) rfl (fun _ h => Eq.trans h rfl) (fun _ => rfl)⟩, Plan.goal_run fun vs hf => ⟨wants_none rfl, OpT.conv (OpT.evs (ev' := evL [(29, va1), (30, .int .i64 s3)]) (opT_index_hd (xs := p0a.2) (i := s3) (n := 4) (Hd.of_rd ra1) Try.underlying43 ti126 rfl rfl rfl (getI_in e6)) rfl [.tmp 29, .tmp 30] rfl ⟨(hf 1 (mb rfl)), (hf 2 (mb rfl)), trivial⟩) rfl (fun _ h => Eq.trans h rfl) (fun _ => rfl)⟩, Plan.goal_run fun vs hf => ⟨wants_none rfl, OpT.conv (OpT.evs (ev' := evL [(31, pt va1 (s3.toNat * 4))]) (opT_load_el (S := rProd rInt (rProd rInt (rProd rInt rInt))) (xs := p0a.2) (a := x5) (i := s3) (k := 4) (off := 0) (f := fun (x : Int × Int × Int × Int) => x) ra1 e6 Fld.self ti126 rfl rfl rfl rfl rfl) rfl [.tmp 31] rfl ⟨(hf 3 (mb rfl)), trivial⟩) rfl (fun u h => by obtain ⟨d, hd, h⟩ := h; obtain ⟨_, _, rfl, rfl, ⟨_, _, rfl, rfl, ⟨_, _, rfl, rfl, rfl⟩⟩⟩ := hd; exact h) (fun _ => rfl)⟩, Plan.goal_run fun vs hf => ⟨wants_none rfl, OpT.conv (OpT.evs (ev' := evL [(3, .pointer (some ⟨g2, 0, none⟩))]) (opT_field_addr (g := g2) (b := 0) tf45_1 rfl rfl) rfl [.tmp 3] rfl ⟨rfl, trivial⟩) rfl (fun _ h => Eq.trans h rfl) (fun _ => rfl)⟩, Plan.goal_run fun vs hf => ⟨wants_none rfl, OpT.conv (OpT.evs (ev' := evL [(33, .pointer (some ⟨g2, 1, none⟩))]) (opT_load_blk (g := g2) (off := 1) (E := 45) (l := [va2, va3]) (d := [va3]) (u := va3) ti43 rfl rfl rfl rfl rfl rfl) rfl [.tmp 33] rfl ⟨(hf 5 (mb rfl)), trivial⟩) rfl (fun _ h => Eq.trans h rfl) (fun _ => rfl)⟩, Plan.goal_run fun vs hf => ⟨wants_none rfl, OpT.conv (OpT.evs (ev' := evL [(5, .int .i64 s3)]) (opT_move (v := .int .i64 s3) rfl rfl) rfl [.tmp 5] rfl ⟨rfl, trivial⟩) rfl (fun _ h => Eq.trans h rfl) (fun _ => rfl)⟩, Plan.goal_run fun vs hf => ⟨wants_none rfl, OpT.conv (OpT.evs (ev' := evL [(34, va3), (35, .int .i64 s3)]) (opT_index_hd (xs := p1b.2) (i := s3) (n := 4) (Hd.of_rd ra3) Try.underlying43 ti126 rfl rfl rfl (getI_in e7)) rfl [.tmp 34, .tmp 35] rfl ⟨(hf 6 (mb rfl)), (hf 7 (mb rfl)), trivial⟩) rfl (fun _ h => Eq.trans h rfl) (fun _ => rfl)⟩, Plan.goal_run fun vs hf => ⟨wants_none rfl, OpT.conv (OpT.evs (ev' := evL [(36, pt va3 (s3.toNat * 4))]) (opT_load_el (S := rProd rInt (rProd rInt (rProd rInt rInt))) (xs := p1b.2) (a := x6) (i := s3) (k := 4) (off := 0) (f := fun (x : Int × Int × Int × Int) => x) ra3 e7 Fld.self ti126 rfl rfl rfl rfl rfl) rfl [.tmp 36] rfl ⟨(hf 8 (mb rfl)), trivial⟩) rfl (fun u h => by obtain ⟨d, hd, h⟩ := h; obtain ⟨_, _, rfl, rfl, ⟨_, _, rfl, rfl, ⟨_, _, rfl, rfl, rfl⟩⟩⟩ := hd; exact h) (fun _ => rfl)⟩, Plan.goal_run fun vs hf => ⟨wants_none rfl, OpT.conv (OpT.evs (ev' := evL [(32, .agg #[.int .i64 x5.1, .int .i64 x5.2.1, .int .i64 x5.2.2.1, .int .i64 x5.2.2.2]), (37, .agg #[.int .i64 x6.1, .int .i64 x6.2.1, .int .i64 x6.2.2.1, .int .i64 x6.2.2.2])]) (opT_nev (fun w => eqt126 x5.1 x5.2.1 x5.2.2.1 x5.2.2.2 x6.1 x6.2.1 x6.2.2.1 x6.2.2.2 w) rfl rfl rfl rfl) rfl [.tmp 32, .tmp 37] rfl ⟨(hf 4 (mb rfl)), (hf 9 (mb rfl)), trivial⟩) rfl (fun _ h => Eq.trans h rfl) (fun _ => rfl)⟩, trivial⟩
            intro vs aq44 wq44 hf haq44 hsq44
            clear haq43 hsq43
            replace haq44 := haq44.pick' (L' := [(2, .pointer (some ⟨g1, 0, none⟩)), (3, .pointer (some ⟨g2, 0, none⟩)), (5, .int .i64 s3), (38, .bool (!((x5.1 == x6.1) && ((x5.2.1 == x6.2.1) && ((x5.2.2.1 == x6.2.2.1) && ((x5.2.2.2 == x6.2.2.2) && true))))))]) ⟨rfl, rfl, rfl, (congrArg some (show _ = _ from (hf 10 (Nat.le_of_ble_eq_true rfl)))), trivial⟩
            replace hsq44 : St I w0 wq44 [Ch.blk g1 [va0, va1] 45, Ch.blk g2 [va2, va3] 45, F] := hsq44
            clear hf vs
            refine nrm ?_
            rcases two ((x5.1 == x6.1) && ((x5.2.1 == x6.2.1) && ((x5.2.2.1 == x6.2.2.1) && ((x5.2.2.2 == x6.2.2.2) && true)))) with hb8 | hb8
            · replace hm := ifFe hb8 hm
              refine cnd_true (b := !((x5.1 == x6.1) && ((x5.2.1 == x6.2.1) && ((x5.2.2.1 == x6.2.2.1) && ((x5.2.2.2 == x6.2.2.2) && true))))) haq44 rfl rfl (notT hb8) ?_
              refine wp_seq ?_
              refine wp_region_lit ?_
              refine seq_op0 haq44 hsq44 (opT_assign (v := .bool false) rfl rfl) rfl rfl ?_
              rintro u aq45 wq45 hf haq45 hsq45
              obtain rfl := Eq.symm hf
              clear haq44 hsq44 aq44 wq44
              refine wpList_nil ?_
              replace haq45 := haq45.pick' (L' := [(4, .bool false)]) ⟨rfl, trivial⟩
              refine nrm ?_
              refine wp_ret ?_
              refine blkR ?_
              refine thenR ?_
              refine thenR ?_
              refine blkR ?_
              refine thenR ?_
              refine thenR ?_
              replace hm := loopRet hm hf1 hc1
              obtain rfl := Option.some.inj hm
              exact ret_1 haq45 rfl (res_tmp haq45 rfl) ⟨_, rfl, rfl, _, Hp.le.rfl, St.sel (hsq45) 3 [2] rfl rfl⟩
            · replace hm := ifTe hb8 hm
              refine cnd_false (b := !((x5.1 == x6.1) && ((x5.2.1 == x6.2.1) && ((x5.2.2.1 == x6.2.2.1) && ((x5.2.2.2 == x6.2.2.2) && true))))) haq44 rfl rfl (notF hb8) ?_
              refine wp_skip ?_
              refine nrmB ?_
              refine nrm ?_
              refine wp_region_lit ?_
              refine seq_op0 haq44 hsq44 (opT_move (v := .int .i64 s3) rfl rfl) rfl rfl ?_
              rintro u aq46 wq46 hf haq46 hsq46
              obtain rfl := Eq.symm hf
              clear haq44 hsq44 aq44 wq44
              refine seq_op0 haq46 hsq46 (opT_add (m := s3) (n := 1) rfl rfl rfl) rfl rfl ?_
              rintro u aq47 wq47 hf haq47 hsq47
              obtain rfl := Eq.symm hf
              clear haq46 hsq46 aq46 wq46
              refine seq_op0 haq47 hsq47 (opT_assign (v := .int .i64 (IntKind.i64.wrap (s3 + 1))) rfl rfl) rfl rfl ?_
              rintro u aq48 wq48 hf haq48 hsq48
              obtain rfl := Eq.symm hf
              clear haq47 hsq47 aq47 wq47
              refine wpList_nil ?_
              replace haq48 := haq48.pick' (L' := [(2, .pointer (some ⟨g1, 0, none⟩)), (3, .pointer (some ⟨g2, 0, none⟩)), (5, .int .i64 (IntKind.i64.wrap (s3 + 1)))]) ⟨rfl, rfl, rfl, trivial⟩
              refine nrm ?_
              exact ⟨_, (Option.some.inj hm).symm, ⟨haq48.pick' ⟨rfl, rfl, rfl, trivial⟩, St.sel hsq48 3 [0, 1, 2] rfl rfl⟩⟩
      · rintro aq49 wq49 ⟨s4, ho1, haq49, hsq49⟩
        replace hm := loopOut ho1 hc1
        clear ho1 hc1 hl1
        refine nrm ?_
        refine wp_seq ?_
        refine wp_region_lit ?_
        refine seq_op0 haq49 hsq49 (opT_assign (v := .bool true) rfl rfl) rfl rfl ?_
        rintro u aq50 wq50 hf haq50 hsq50
        obtain rfl := Eq.symm hf
        clear haq49 hsq49 aq49 wq49
        refine wpList_nil ?_
        replace haq50 := haq50.pick' (L' := [(4, .bool true)]) ⟨rfl, trivial⟩
        refine nrm ?_
        refine wp_ret ?_
        obtain rfl := Option.some.inj hm
        exact ret_1 haq50 rfl (res_tmp haq50 rfl) ⟨_, rfl, rfl, _, Hp.le.rfl, St.sel (hsq50) 1 [0] rfl rfl⟩
    · replace hm := ifTe hb2 hm
      refine cnd_true (b := (p0a.2.length : Int) != (p1b.2.length : Int)) haq18 rfl rfl hb2 ?_
      refine wp_seq ?_
      refine wp_region_lit ?_
      refine seq_op0 haq18 hsq18 (opT_assign (v := .bool false) rfl rfl) rfl rfl ?_
      rintro u aq51 wq51 hf haq51 hsq51
      obtain rfl := Eq.symm hf
      clear haq18 hsq18 aq18 wq18
      refine wpList_nil ?_
      replace haq51 := haq51.pick' (L' := [(4, .bool false)]) ⟨rfl, trivial⟩
      refine nrm ?_
      refine wp_ret ?_
      refine thenR ?_
      obtain rfl := Option.some.inj hm
      exact ret_1 haq51 rfl (res_tmp haq51 rfl) ⟨_, rfl, rfl, _, Hp.le.rfl, St.sel (hsq51) 3 [2] rfl rfl⟩
  · replace hm := ifTe hb1 hm
    refine seq_skip (g := 6) (d := 12) (want := false) (b := r1 != 0) haq10 hsq10 rfl rfl rfl hb1 rfl ?_
    intro aq52 haq52
    refine seq_skip (g := 6) (d := 12) (want := false) (b := r1 != 0) haq52 hsq10 rfl rfl rfl hb1 rfl ?_
    intro aq53 haq53
    refine seq_skip (g := 6) (d := 12) (want := false) (b := r1 != 0) haq53 hsq10 rfl rfl rfl hb1 rfl ?_
    intro aq54 haq54
    refine seq_skip (g := 6) (d := 12) (want := false) (b := r1 != 0) haq54 hsq10 rfl rfl rfl hb1 rfl ?_
    intro aq55 haq55
    refine seq_skip (g := 6) (d := 12) (want := false) (b := r1 != 0) haq55 hsq10 rfl rfl rfl hb1 rfl ?_
    intro aq56 haq56
    refine seq_skip (g := 6) (d := 12) (want := false) (b := r1 != 0) haq56 hsq10 rfl rfl rfl hb1 rfl ?_
    intro aq57 haq57
    refine seq_skip (g := 6) (d := 12) (want := false) (b := r1 != 0) haq57 hsq10 rfl rfl rfl hb1 rfl ?_
    intro aq58 haq58
    refine seq_op0 haq58 hsq10 (opT_pick (b := r1 != 0) (v := .bool true) rfl rfl (ifT hb1)) rfl rfl ?_
    rintro u aq59 wq59 hf haq59 hsq59
    obtain rfl := Eq.symm hf
    clear haq58 hsq10 aq58 wq10
    refine wpList_nil ?_
    replace haq59 := haq59.pick' (L' := [(2, .pointer (some ⟨g1, 0, none⟩)), (3, .pointer (some ⟨g2, 0, none⟩)), (20, .bool true)]) ⟨rfl, rfl, rfl, trivial⟩
    refine nrm ?_
    refine cnd_true (b := true) haq59 rfl rfl rfl ?_
    refine wp_seq ?_
    refine wp_region_lit ?_
    refine seq_op0 haq59 hsq59 (opT_assign (v := .bool false) rfl rfl) rfl rfl ?_
    rintro u aq60 wq60 hf haq60 hsq60
    obtain rfl := Eq.symm hf
    clear haq59 hsq59 aq59 wq59
    refine wpList_nil ?_
    replace haq60 := haq60.pick' (L' := [(4, .bool false)]) ⟨rfl, trivial⟩
    refine nrm ?_
    refine wp_ret ?_
    refine thenR ?_
    obtain rfl := Option.some.inj hm
    exact ret_1 haq60 rfl (res_tmp haq60 rfl) ⟨_, rfl, rfl, _, Hp.le.rfl, St.sel (hsq60) 3 [2] rfl rfl⟩
set_option maxHeartbeats 8000000 in
theorem c_w_szIntSS (p0a : List (List Int)) (p1left : Int) (r : Int) (hm : m_w_szIntSS p0a p1left = some r) {I : Hp} {w0 : World} (va0 : Value) (ra0 : (rSlice 34 (rSlice 3 rInt)).rd I [va0] p0a) : Con Try.prog 45 #[va0, .int .i64 p1left] I w0 [] (fun v => v = .int .i64 r) (fun v => []) := by
  refine con_of_wp (n := 27) [(0, va0), (1, .int .i64 p1left)] Try.func45 rfl rfl (Nat.le_of_ble_eq_true rfl) (args_all ⟨rfl, rfl, trivial⟩) (fun F w a ha hs => ?_) (fun v => trivial)
  unfold m_w_szIntSS at hm
  refine wp_seq ?_
  refine wp_region_lit ?_
  refine seq_op0 ha hs (opT_assign (v := .int .i64 0) rfl rfl) rfl rfl ?_
  rintro u aq1 wq1 hf haq1 hsq1
  obtain rfl := Eq.symm hf
  clear ha hs a w
  refine wpList_nil ?_
  replace haq1 := haq1.pick' (L' := [(0, va0), (1, .int .i64 p1left)]) ⟨rfl, rfl, trivial⟩
  refine nrm ?_
  refine wp_seq ?_
  refine wp_region_lit ?_
  refine seq_op0 haq1 hsq1 (opT_move (v := .int .i64 p1left) rfl rfl) rfl rfl ?_
  rintro u aq2 wq2 hf haq2 hsq2
  obtain rfl := Eq.symm hf
  clear haq1 hsq1 aq1 wq1
  refine seq_op0 haq2 hsq2 (opT_move (v := va0) rfl rfl) rfl rfl ?_
  rintro u aq3 wq3 hf haq3 hsq3
  obtain rfl := Eq.symm hf
  clear haq2 hsq2 aq2 wq2
  refine seq_op0 haq3 hsq3 (opT_len_hd (v := va0) (n := p0a.length) (Hd.of_rd ra0) Try.underlying23 rfl rfl) rfl rfl ?_
  rintro u aq4 wq4 hf haq4 hsq4
  obtain rfl := Eq.symm hf
  clear haq3 hsq3 aq3 wq3
  refine seq_op0 haq4 hsq4 (opT_sub (m := p1left) (n := (p0a.length : Int)) rfl rfl rfl) rfl rfl ?_
  rintro u aq5 wq5 hf haq5 hsq5
  obtain rfl := Eq.symm hf
  clear haq4 hsq4 aq4 wq4
  refine seq_op0 haq5 hsq5 (opT_assign (v := .int .i64 (IntKind.i64.wrap (p1left - (p0a.length : Int)))) rfl rfl) rfl rfl ?_
  rintro u aq6 wq6 hf haq6 hsq6
  obtain rfl := Eq.symm hf
  clear haq5 hsq5 aq5 wq5
  refine wpList_nil ?_
  replace haq6 := haq6.pick' (L' := [(0, va0), (1, .int .i64 (IntKind.i64.wrap (p1left - (p0a.length : Int))))]) ⟨rfl, rfl, trivial⟩
  refine nrm ?_
  refine wp_seq ?_
  refine wp_seq ?_
  refine wp_region_lit ?_
  refine seq_op0 haq6 hsq6 (opT_move (v := .int .i64 (IntKind.i64.wrap (p1left - (p0a.length : Int)))) rfl rfl) rfl rfl ?_
  rintro u aq7 wq7 hf haq7 hsq7
  obtain rfl := Eq.symm hf
  clear haq6 hsq6 aq6 wq6
  refine seq_op0 haq7 hsq7 (opT_cmp (k := .i64) (m := IntKind.i64.wrap (p1left - (p0a.length : Int))) (n := 0) (c := decide (IntKind.i64.wrap (p1left - (p0a.length : Int)) < 0)) rfl rfl rfl rfl rfl) rfl rfl ?_
  rintro u aq8 wq8 hf haq8 hsq8
  obtain rfl := Eq.symm hf
  clear haq7 hsq7 aq7 wq7
  refine wpList_nil ?_
  replace haq8 := haq8.pick' (L' := [(0, va0), (1, .int .i64 (IntKind.i64.wrap (p1left - (p0a.length : Int)))), (11, .bool (decide (IntKind.i64.wrap (p1left - (p0a.length : Int)) < 0)))]) ⟨rfl, rfl, rfl, trivial⟩
  refine nrm ?_
  rcases two (decide (IntKind.i64.wrap (p1left - (p0a.length : Int)) < 0)) with hb1 | hb1
  · replace hm := ifFe hb1 hm
    refine cnd_false (b := decide (IntKind.i64.wrap (p1left - (p0a.length : Int)) < 0)) haq8 rfl rfl hb1 ?_
    refine wp_skip ?_
    refine nrm ?_
    refine wp_seq ?_
    refine wp_seq ?_
    refine wp_region_lit ?_
    refine seq_op0 haq8 hsq8 (opT_assign (v := .int .i64 0) rfl rfl) rfl rfl ?_
    rintro u aq9 wq9 hf haq9 hsq9
    obtain rfl := Eq.symm hf
    clear haq8 hsq8 aq8 wq8
    refine wpList_nil ?_
    replace haq9 := haq9.pick' (L' := [(0, va0), (1, .int .i64 (IntKind.i64.wrap (p1left - (p0a.length : Int)))), (5, .int .i64 0)]) ⟨rfl, rfl, rfl, trivial⟩
    refine nrm ?_
    obtain ⟨o1, hl1, hc1⟩ := bindL_some hm
    refine wp_cut (fun a w => ∃ s4 : Int × Int, o1 = .brk s4 ∧ Agr 27 a [(1, .int .i64 s4.1)] ∧ St I w0 w [F]) ?_ ?_
    · refine wp_block (wp_loopM (R := Int) (S := Int × Int) (fun s3 a w => Agr 27 a [(0, va0), (1, .int .i64 s3.1), (5, .int .i64 s3.2)] ∧ St I w0 w [F]) hl1 ?_ ?_)
      · exact ⟨haq9.pick' ⟨rfl, rfl, rfl, trivial⟩, St.sel hsq9 1 [0] rfl rfl⟩
      · rintro s3 o2 hm hf1 aq44 wq44 ⟨haq44, hsq44⟩
        unfold m_w_szIntSS_l0 at hm
        refine wp_seq ?_
        refine wp_seq ?_
        refine wp_region_lit ?_
        refine seq_op0 haq44 hsq44 (opT_move (v := .int .i64 s3.2) rfl rfl) rfl rfl ?_
        rintro u aq45 wq45 hf haq45 hsq45
        obtain rfl := Eq.symm hf
        clear haq44 hsq44 aq44 wq44
        refine seq_op0 haq45 hsq45 (opT_move (v := va0) rfl rfl) rfl rfl ?_
        rintro u aq46 wq46 hf haq46 hsq46
        obtain rfl := Eq.symm hf
        clear haq45 hsq45 aq45 wq45
        refine seq_op0 haq46 hsq46 (opT_len_hd (v := va0) (n := p0a.length) (Hd.of_rd ra0) Try.underlying23 rfl rfl) rfl rfl ?_
        rintro u aq47 wq47 hf haq47 hsq47
        obtain rfl := Eq.symm hf
        clear haq46 hsq46 aq46 wq46
        refine seq_op0 haq47 hsq47 (opT_cmp (k := .i64) (m := s3.2) (n := (p0a.length : Int)) (c := decide (s3.2 < (p0a.length : Int))) rfl rfl rfl rfl rfl) rfl rfl ?_
        rintro u aq48 wq48 hf haq48 hsq48
        obtain rfl := Eq.symm hf
        clear haq47 hsq47 aq47 wq47
        refine wpList_nil ?_
        replace haq48 := haq48.pick' (L' := [(0, va0), (1, .int .i64 s3.1), (5, .int .i64 s3.2), (15, .bool (decide (s3.2 < (p0a.length : Int))))]) ⟨rfl, rfl, rfl, rfl, trivial⟩
        refine nrm ?_
        rcases two (decide (s3.2 < (p0a.length : Int))) with hb6 | hb6
        · replace hm := ifFe hb6 hm
          refine cnd_false (b := decide (s3.2 < (p0a.length : Int))) haq48 rfl rfl hb6 ?_
          refine wp_exit ?_
          refine thenX ?_
          refine thenX ?_
          refine ex_in ?_
          refine nrm ?_
          exact ⟨_, loopBrk hm hf1, ⟨haq48.pick' ⟨rfl, trivial⟩, St.sel hsq48 1 [0] rfl rfl⟩⟩
        · replace hm := ifTe hb6 hm
          refine cnd_true (b := decide (s3.2 < (p0a.length : Int))) haq48 rfl rfl hb6 ?_
          refine wp_skip ?_
          refine nrm ?_
          refine wp_seq ?_
          refine wp_block ?_
          refine wp_seq ?_
          refine wp_region_lit ?_
          refine seq_op0 haq48 hsq48 (opT_move (v := va0) rfl rfl) rfl rfl ?_
          rintro u aq49 wq49 hf haq49 hsq49
          obtain rfl := Eq.symm hf
          clear haq48 hsq48 aq48 wq48
          refine seq_op0 haq49 hsq49 (opT_move (v := .int .i64 s3.2) rfl rfl) rfl rfl ?_
          rintro u aq50 wq50 hf haq50 hsq50
          obtain rfl := Eq.symm hf
          clear haq49 hsq49 aq49 wq49
          obtain ⟨x3, e5, hm⟩ := bind_some hm
          refine seq_op0 haq50 hsq50 (opT_index_hd (xs := p0a) (i := s3.2) (n := 1) (Hd.of_rd ra0) Try.underlying23 ti34 rfl rfl rfl (getI_in e5)) rfl rfl ?_
          rintro u aq51 wq51 hf haq51 hsq51
          obtain rfl := Eq.symm hf
          clear haq50 hsq50 aq50 wq50
          refine seq_op0 haq51 hsq51 (opT_load_el (S := rSlice 3 rInt) (xs := p0a) (a := x3) (i := s3.2) (k := 1) (off := 0) (f := fun (x : List Int) => x) ra0 e5 Fld.self ti34 rfl rfl rfl rfl rfl) rfl rfl ?_
          rintro v3 aq52 wq52 hf haq52 hsq52
          have r5 := lds_sl hf
          clear hf
          clear haq51 hsq51 aq51 wq51
          refine seq_op0 haq52 hsq52 (opT_move (v := .int .i64 s3.1) rfl rfl) rfl rfl ?_
          rintro u aq53 wq53 hf haq53 hsq53
          obtain rfl := Eq.symm hf
          clear haq52 hsq52 aq52 wq52
          obtain ⟨r6, e6, hm⟩ := bind_some hm
          refine seq_op0 haq53 hsq53 (opT_call (args := #[v3, .int .i64 s3.1]) (first := #[]) (captured := #[]) en63 rfl rfl rfl (c_w_szIntS x3 s3.1 _ e6 v3 r5)) rfl rfl ?_
          rintro u aq54 wq54 hf haq54 hsq54
          obtain rfl := Eq.symm hf
          clear haq53 hsq53 aq53 wq53
          refine seq_op0 haq54 hsq54 (opT_assign (v := .int .i64 r6) rfl rfl) rfl rfl ?_
          rintro u aq55 wq55 hf haq55 hsq55
          obtain rfl := Eq.symm hf
          clear haq54 hsq54 aq54 wq54
          refine wpList_nil ?_
          replace haq55 := haq55.pick' (L' := [(0, va0), (1, .int .i64 r6), (5, .int .i64 s3.2)]) ⟨rfl, rfl, rfl, trivial⟩
          refine nrm ?_
          refine wp_seq ?_
          refine wp_region_lit ?_
          refine seq_op0 haq55 hsq55 (opT_move (v := .int .i64 r6) rfl rfl) rfl rfl ?_
          rintro u aq56 wq56 hf haq56 hsq56
          obtain rfl := Eq.symm hf
          clear haq55 hsq55 aq55 wq55
          refine seq_op0 haq56 hsq56 (opT_cmp (k := .i64) (m := r6) (n := 0) (c := decide (r6 < 0)) rfl rfl rfl rfl rfl) rfl rfl ?_
          rintro u aq57 wq57 hf haq57 hsq57
          obtain rfl := Eq.symm hf
          clear haq56 hsq56 aq56 wq56
          refine wpList_nil ?_
          replace haq57 := haq57.pick' (L' := [(0, va0), (1, .int .i64 r6), (5, .int .i64 s3.2), (25, .bool (decide (r6 < 0)))]) ⟨rfl, rfl, rfl, rfl, trivial⟩
          refine nrm ?_
          rcases two (decide (r6 < 0)) with hb7 | hb7
          · replace hm := ifFe hb7 hm
            refine cnd_false (b := decide (r6 < 0)) haq57 rfl rfl hb7 ?_
            refine wp_skip ?_
            refine nrmB ?_
            refine nrm ?_
            refine wp_region_lit ?_
            refine seq_op0 haq57 hsq57 (opT_move (v := .int .i64 s3.2) rfl rfl) rfl rfl ?_
            rintro u aq58 wq58 hf haq58 hsq58
            obtain rfl := Eq.symm hf
            clear haq57 hsq57 aq57 wq57
            refine seq_op0 haq58 hsq58 (opT_add (m := s3.2) (n := 1) rfl rfl rfl) rfl rfl ?_
            rintro u aq59 wq59 hf haq59 hsq59
            obtain rfl := Eq.symm hf
            clear haq58 hsq58 aq58 wq58
            refine seq_op0 haq59 hsq59 (opT_assign (v := .int .i64 (IntKind.i64.wrap (s3.2 + 1))) rfl rfl) rfl rfl ?_
            rintro u aq60 wq60 hf haq60 hsq60
            obtain rfl := Eq.symm hf
            clear haq59 hsq59 aq59 wq59
            refine wpList_nil ?_
            replace haq60 := haq60.pick' (L' := [(0, va0), (1, .int .i64 r6), (5, .int .i64 (IntKind.i64.wrap (s3.2 + 1)))]) ⟨rfl, rfl, rfl, trivial⟩
            refine nrm ?_
            exact ⟨_, (Option.some.inj hm).symm, ⟨haq60.pick' ⟨rfl, rfl, rfl, trivial⟩, St.sel hsq60 1 [0] rfl rfl⟩⟩
          · replace hm := ifTe hb7 hm
            refine cnd_true (b := decide (r6 < 0)) haq57 rfl rfl hb7 ?_
            refine wp_seq ?_
            refine wp_region_lit ?_
            refine seq_op0 haq57 hsq57 (opT_assign (v := .int .i64 (-1)) rfl rfl) rfl rfl ?_
            rintro u aq61 wq61 hf haq61 hsq61
            obtain rfl := Eq.symm hf
            clear haq57 hsq57 aq57 wq57
            refine wpList_nil ?_
            replace haq61 := haq61.pick' (L' := [(4, .int .i64 (-1))]) ⟨rfl, trivial⟩
            refine nrm ?_
            refine wp_ret ?_
            refine blkR ?_
            refine thenR ?_
            refine thenR ?_
            refine blkR ?_
            refine thenR ?_
            refine thenR ?_
            replace hm := loopRet hm hf1 hc1
            obtain rfl := Option.some.inj hm
            exact ret_1 haq61 rfl (res_tmp haq61 rfl) ⟨_, rfl, rfl, _, Hp.le.rfl, St.sel (hsq61) 1 [0] rfl rfl⟩
    · rintro aq62 wq62 ⟨s4, ho1, haq62, hsq62⟩
      replace hm := loopOut ho1 hc1
      clear ho1 hc1 hl1
      refine nrm ?_
      refine wp_seq ?_
      refine wp_region_lit ?_
      refine seq_op0 haq62 hsq62 (opT_move (v := .int .i64 s4.1) rfl rfl) rfl rfl ?_
      rintro u aq63 wq63 hf haq63 hsq63
      obtain rfl := Eq.symm hf
      clear haq62 hsq62 aq62 wq62
      refine seq_op0 haq63 hsq63 (opT_assign (v := .int .i64 s4.1) rfl rfl) rfl rfl ?_
      rintro u aq64 wq64 hf haq64 hsq64
      obtain rfl := Eq.symm hf
      clear haq63 hsq63 aq63 wq63
      refine wpList_nil ?_
      replace haq64 := haq64.pick' (L' := [(4, .int .i64 s4.1)]) ⟨rfl, trivial⟩
      refine nrm ?_
      refine wp_ret ?_
      obtain rfl := Option.some.inj hm
      exact ret_1 haq64 rfl (res_tmp haq64 rfl) ⟨_, rfl, rfl, _, Hp.le.rfl, St.sel (hsq64) 1 [0] rfl rfl⟩
  · replace hm := ifTe hb1 hm
    refine cnd_true (b := decide (IntKind.i64.wrap (p1left - (p0a.length : Int)) < 0)) haq8 rfl rfl hb1 ?_
    refine wp_seq ?_
    refine wp_region_lit ?_
    refine seq_op0 haq8 hsq8 (opT_assign (v := .int .i64 (-1)) rfl rfl) rfl rfl ?_
    rintro u aq65 wq65 hf haq65 hsq65
    obtain rfl := Eq.symm hf
    clear haq8 hsq8 aq8 wq8
    refine wpList_nil ?_
    replace haq65 := haq65.pick' (L' := [(4, .int .i64 (-1))]) ⟨rfl, trivial⟩
    refine nrm ?_
    refine wp_ret ?_
    refine thenR ?_
    obtain rfl := Option.some.inj hm
    exact ret_1 haq65 rfl (res_tmp haq65 rfl) ⟨_, rfl, rfl, _, Hp.le.rfl, St.sel (hsq65) 1 [0] rfl rfl⟩
set_option maxHeartbeats 8000000 in
theorem c_w_toSubscriberS (p0a : List (Int × Int × Int)) (r : List (Int × Int × Int)) (hm : m_w_toSubscriberS p0a = some r) {I : Hp} {w0 : World} (va0 : Value) (ra0 : (rSlice 153 (rProd rInt (rProd rInt rInt))).rd I [va0] p0a) : Con Try.prog 85 #[va0] I w0 [] (fun v => True) (fun v => [Ch.own (rSlice 107 (rProd rInt (rProd rInt rInt))) [v] r]) := by
  refine con_of_wp (n := 23) [(0, va0)] Try.func85 rfl rfl (Nat.le_of_ble_eq_true rfl) (args_all ⟨rfl, trivial⟩) (fun F w a ha hs => ?_) (fun v => ⟨dp_own (dp_slice (dp_prod dp_int (dp_prod dp_int dp_int))), trivial⟩)
  unfold m_w_toSubscriberS at hm
  refine wp_seq ?_
  refine wp_region_lit ?_
  refine seq_op0 ha hs (opT_assign (v := .slice none 0 0) rfl rfl) rfl rfl ?_
  rintro u aq1 wq1 hf haq1 hsq1
  obtain rfl := Eq.symm hf
  clear ha hs a w
  refine wpList_nil ?_
  replace haq1 := haq1.pick' (L' := [(0, va0)]) ⟨rfl, trivial⟩
  refine nrm ?_
  refine wp_seq ?_
  refine wp_region_lit ?_
  refine seq_op0 haq1 hsq1 (opT_move (v := va0) rfl rfl) rfl rfl ?_
  rintro u aq2 wq2 hf haq2 hsq2
  obtain rfl := Eq.symm hf
  clear haq1 hsq1 aq1 wq1
  refine seq_op0 haq2 hsq2 (opT_len_hd (v := va0) (n := p0a.length) (Hd.of_rd ra0) Try.underlying64 rfl rfl) rfl rfl ?_
  rintro u aq3 wq3 hf haq3 hsq3
  obtain rfl := Eq.symm hf
  clear haq2 hsq2 aq2 wq2
  obtain ⟨x1, hk1, hm⟩ := bind_some hm
  refine seq_op haq3 hsq3 rfl (opT_mk (E := 107) (R := rProd rInt (rProd rInt rInt)) (zv := .agg #[.int .i64 0, .int .i64 0, .int .i64 0]) (z := ((0, 0, 0) : Int × Int × Int)) (zro_prod (c := [.int .i64 0]) (d := [.int .i64 0, .int .i64 0]) zro_flat (zro_prod (c := [.int .i64 0]) (d := [.int .i64 0]) zro_flat zro_flat)) Try.underlying76 tz107 rfl rfl (by decide) (by decide) rfl rfl hk1) (List.Perm.refl _) rfl ?_
  rintro v1 aq4 wq4 - haq4 (hsq4 : St I w0 wq4 [Ch.own (rSlice 107 (rProd rInt (rProd rInt rInt))) [v1] x1, F])
  clear haq3 hsq3 aq3 wq3
  refine seq_op0 haq4 hsq4 (opT_assign (v := v1) rfl rfl) rfl rfl ?_
  rintro u aq5 wq5 hf haq5 hsq5
  obtain rfl := Eq.symm hf
  clear haq4 hsq4 aq4 wq4
  refine wpList_nil ?_
  replace haq5 := haq5.pick' (L' := [(0, va0), (3, v1)]) ⟨rfl, rfl, trivial⟩
  refine nrm ?_
  refine wp_seq ?_
  refine wp_seq ?_
  refine wp_region_lit ?_
  refine seq_op0 haq5 hsq5 (opT_assign (v := .int .i64 0) rfl rfl) rfl rfl ?_
  rintro u aq6 wq6 hf haq6 hsq6
  obtain rfl := Eq.symm hf
  clear haq5 hsq5 aq5 wq5
  refine wpList_nil ?_
  replace haq6 := haq6.pick' (L' := [(0, va0), (3, v1), (4, .int .i64 0)]) ⟨rfl, rfl, rfl, trivial⟩
  refine nrm ?_
  obtain ⟨o1, hl1, hc1⟩ := bindL_some hm
  refine wp_cut (fun a w => ∃ s4 : (List (Int × Int × Int)) × Int, o1 = .brk s4 ∧ ∃ v3 : Value, Agr 23 a [(3, v3)] ∧ St I w0 w [Ch.own (rSlice 107 (rProd rInt (rProd rInt rInt))) [v3] s4.1, F]) ?_ ?_
  · refine wp_block (wp_loopM (R := List (Int × Int × Int)) (S := (List (Int × Int × Int)) × Int) (fun s3 a w => ∃ v4 : Value, Agr 23 a [(0, va0), (3, v4), (4, .int .i64 s3.2)] ∧ St I w0 w [Ch.own (rSlice 107 (rProd rInt (rProd rInt rInt))) [v4] s3.1, F]) hl1 ?_ ?_)
    · exact ⟨v1, haq6.pick' ⟨rfl, rfl, rfl, trivial⟩, St.sel hsq6 2 [0, 1] rfl rfl⟩
    · rintro s3 o2 hm hf1 aq39 wq39 ⟨v4, haq39, hsq39⟩
      unfold m_w_toSubscriberS_l0 at hm
      refine wp_seq ?_
      refine wp_seq ?_
      refine wp_region_lit ?_
      refine seq_op0 haq39 hsq39 (opT_move (v := .int .i64 s3.2) rfl rfl) rfl rfl ?_
      rintro u aq40 wq40 hf haq40 hsq40
      obtain rfl := Eq.symm hf
      clear haq39 hsq39 aq39 wq39
      refine seq_op0 haq40 hsq40 (opT_move (v := va0) rfl rfl) rfl rfl ?_
      rintro u aq41 wq41 hf haq41 hsq41
      obtain rfl := Eq.symm hf
      clear haq40 hsq40 aq40 wq40
      refine seq_op0 haq41 hsq41 (opT_len_hd (v := va0) (n := p0a.length) (Hd.of_rd ra0) Try.underlying64 rfl rfl) rfl rfl ?_
      rintro u aq42 wq42 hf haq42 hsq42
      obtain rfl := Eq.symm hf
      clear haq41 hsq41 aq41 wq41
      refine seq_op0 haq42 hsq42 (opT_cmp (k := .i64) (m := s3.2) (n := (p0a.length : Int)) (c := decide (s3.2 < (p0a.length : Int))) rfl rfl rfl rfl rfl) rfl rfl ?_
      rintro u aq43 wq43 hf haq43 hsq43
      obtain rfl := Eq.symm hf
      clear haq42 hsq42 aq42 wq42
      refine wpList_nil ?_
      replace haq43 := haq43.pick' (L' := [(0, va0), (3, v4), (4, .int .i64 s3.2), (11, .bool (decide (s3.2 < (p0a.length : Int))))]) ⟨rfl, rfl, rfl, rfl, trivial⟩
      refine nrm ?_
      rcases two (decide (s3.2 < (p0a.length : Int))) with hb3 | hb3
      · replace hm := ifFe hb3 hm
        refine cnd_false (b := decide (s3.2 < (p0a.length : Int))) haq43 rfl rfl hb3 ?_
        refine wp_exit ?_
        refine thenX ?_
        refine thenX ?_
        refine ex_in ?_
        refine nrm ?_
        exact ⟨_, loopBrk hm hf1, ⟨v4, haq43.pick' ⟨rfl, trivial⟩, St.sel hsq43 2 [0, 1] rfl rfl⟩⟩
      · replace hm := ifTe hb3 hm
        refine cnd_true (b := decide (s3.2 < (p0a.length : Int))) haq43 rfl rfl hb3 ?_
        refine wp_skip ?_
        refine nrm ?_
        refine wp_seq ?_
        refine wp_block ?_
        refine wp_region_lit ?_
        refine seq_op0 haq43 hsq43 (opT_move (v := v4) rfl rfl) rfl rfl ?_
        rintro u aq44 wq44 hf haq44 hsq44
        obtain rfl := Eq.symm hf
        clear haq43 hsq43 aq43 wq43
        refine seq_op0 haq44 hsq44 (opT_move (v := .int .i64 s3.2) rfl rfl) rfl rfl ?_
        rintro u aq45 wq45 hf haq45 hsq45
        obtain rfl := Eq.symm hf
        clear haq44 hsq44 aq44 wq44
        refine seq_op0 haq45 hsq45 (opT_move (v := va0) rfl rfl) rfl rfl ?_
        rintro u aq46 wq46 hf haq46 hsq46
        obtain rfl := Eq.symm hf
        clear haq45 hsq45 aq45 wq45
        refine seq_op0 haq46 hsq46 (opT_move (v := .int .i64 s3.2) rfl rfl) rfl rfl ?_
        rintro u aq47 wq47 hf haq47 hsq47
        obtain rfl := Eq.symm hf
        clear haq46 hsq46 aq46 wq46
        obtain ⟨x6, e7, hm⟩ := bind_some hm
        refine seq_op0 haq47 hsq47 (opT_index_hd (xs := p0a) (i := s3.2) (n := 3) (Hd.of_rd ra0) Try.underlying64 ti153 rfl rfl rfl (getI_in e7)) rfl rfl ?_
        rintro u aq48 wq48 hf haq48 hsq48
        obtain rfl := Eq.symm hf
        clear haq47 hsq47 aq47 wq47
        refine seq_op0 haq48 hsq48 (opT_load_el (S := rProd rInt (rProd rInt rInt)) (xs := p0a) (a := x6) (i := s3.2) (k := 3) (off := 0) (f := fun (x : Int × Int × Int) => x) ra0 e7 Fld.self ti153 rfl rfl rfl rfl rfl) rfl rfl ?_
        rintro u aq49 wq49 ⟨d, hd, hf⟩ haq49 hsq49
        obtain ⟨_, _, rfl, rfl, ⟨_, _, rfl, rfl, rfl⟩⟩ := hd
        obtain rfl : u = .agg #[.int .i64 x6.1, .int .i64 x6.2.1, .int .i64 x6.2.2] := hf
        clear haq48 hsq48 aq48 wq48
        obtain ⟨r3, e8, hm⟩ := bind_some hm
        refine seq_op0 haq49 hsq49 (opT_call (args := #[.agg #[.int .i64 x6.1, .int .i64 x6.2.1, .int .i64 x6.2.2]]) (first := #[]) (captured := #[]) en136 rfl rfl rfl (c_w_toSubscriber (x6.1, x6.2.1, x6.2.2) _ e8  )) rfl rfl ?_
        rintro u aq50 wq50 hf haq50 hsq50
        obtain rfl := Eq.symm hf
        clear haq49 hsq49 aq49 wq49
        obtain ⟨x7, e9, hm⟩ := bind_some hm
        refine seq_op0 haq50 hsq50 (opT_index_hd (xs := s3.1) (i := s3.2) (n := 3) (St.hd hsq50 0 rfl).1 Try.underlying76 ti107 rfl rfl rfl (getI_in e9)) rfl rfl ?_
        rintro u aq51 wq51 hf haq51 hsq51
        obtain rfl := Eq.symm hf
        clear haq50 hsq50 aq50 wq50
        refine seq_op haq51 hsq51 rfl (opT_store_el (E := 107) (R := rProd rInt (rProd rInt rInt)) (S := rProd rInt (rProd rInt rInt)) (xs := s3.1) (a := x7) (b := (r3.1, r3.2.1, r3.2.2)) (i := s3.2) (k := 3) (off := 0) (f := fun x y => y) (v := v4) (d := [.int .i64 r3.1, .int .i64 r3.2.1, .int .i64 r3.2.2]) (u := .agg #[.int .i64 r3.1, .int .i64 r3.2.1, .int .i64 r3.2.2]) (sh_prod sh_int (sh_prod sh_int sh_int)) (cpy_prod cpy_int (cpy_prod cpy_int cpy_int)) e9 Upd.self ti107 rfl rfl rfl rfl (allC rfl (allC rfl (allC rfl allN))) rfl rfl (by decide) ⟨_, _, rfl, rfl, ⟨_, _, rfl, rfl, rfl⟩⟩) (perm_front (i := 0) rfl) rfl ?_
        rintro _ aq52 wq52 - haq52 (hsq52 : St I w0 wq52 [Ch.own (rSlice 107 (rProd rInt (rProd rInt rInt))) [v4] (s3.1.set s3.2.toNat (r3.1, r3.2.1, r3.2.2)), F])
        clear haq51 hsq51 aq51 wq51
        refine wpList_nil ?_
        replace haq52 := haq52.pick' (L' := [(0, va0), (3, v4), (4, .int .i64 s3.2)]) ⟨rfl, rfl, rfl, trivial⟩
        refine nrmB ?_
        refine nrm ?_
        refine wp_region_lit ?_
        refine seq_op0 haq52 hsq52 (opT_move (v := .int .i64 s3.2) rfl rfl) rfl rfl ?_
        rintro u aq53 wq53 hf haq53 hsq53
        obtain rfl := Eq.symm hf
        clear haq52 hsq52 aq52 wq52
        refine seq_op0 haq53 hsq53 (opT_add (m := s3.2) (n := 1) rfl rfl rfl) rfl rfl ?_
        rintro u aq54 wq54 hf haq54 hsq54
        obtain rfl := Eq.symm hf
        clear haq53 hsq53 aq53 wq53
        refine seq_op0 haq54 hsq54 (opT_assign (v := .int .i64 (IntKind.i64.wrap (s3.2 + 1))) rfl rfl) rfl rfl ?_
        rintro u aq55 wq55 hf haq55 hsq55
        obtain rfl := Eq.symm hf
        clear haq54 hsq54 aq54 wq54
        refine wpList_nil ?_
        replace haq55 := haq55.pick' (L' := [(0, va0), (3, v4), (4, .int .i64 (IntKind.i64.wrap (s3.2 + 1)))]) ⟨rfl, rfl, rfl, trivial⟩
        refine nrm ?_
        exact ⟨_, (Option.some.inj hm).symm, ⟨v4, haq55.pick' ⟨rfl, rfl, rfl, trivial⟩, St.sel hsq55 2 [0, 1] rfl rfl⟩⟩
  · rintro aq56 wq56 ⟨s4, ho1, v3, haq56, hsq56⟩
    replace hm := loopOut ho1 hc1
    clear ho1 hc1 hl1
    refine nrm ?_
    refine wp_seq ?_
    refine wp_region_lit ?_
    refine seq_op0 haq56 hsq56 (opT_move (v := v3) rfl rfl) rfl rfl ?_
    rintro u aq57 wq57 hf haq57 hsq57
    obtain rfl := Eq.symm hf
    clear haq56 hsq56 aq56 wq56
    refine seq_op0 haq57 hsq57 (opT_assign (v := v3) rfl rfl) rfl rfl ?_
    rintro u aq58 wq58 hf haq58 hsq58
    obtain rfl := Eq.symm hf
    clear haq57 hsq57 aq57 wq57
    refine wpList_nil ?_
    replace haq58 := haq58.pick' (L' := [(2, v3)]) ⟨rfl, trivial⟩
    refine nrm ?_
    refine wp_ret ?_
    obtain rfl := Option.some.inj hm
    exact ret_1 haq58 rfl (res_tmp haq58 rfl) ⟨_, rfl, trivial, _, Hp.le.rfl, St.sel (hsq58) 2 [0, 1] rfl rfl⟩
set_option maxHeartbeats 8000000 in
theorem c_w_szExpr (p0a : (List (Int × Int × Int × Int))) (p1left : Int) (r : Int) (hm : m_w_szExpr p0a p1left = some r) {I : Hp} {w0 : World} (va0 : Value) (ra0 : (rSlice 222 (rProd rInt (rProd rInt (rProd rInt rInt)))).rd I [va0] p0a) : Con Try.prog 183 #[.agg #[va0], .int .i64 p1left] I w0 [] (fun v => v = .int .i64 r) (fun v => []) := by
  refine con_of_wp (n := 12) [(0, .agg #[va0]), (1, .int .i64 p1left)] Try.func183 rfl rfl (Nat.le_of_ble_eq_true rfl) (args_all ⟨rfl, rfl, trivial⟩) (fun F w a ha hs => ?_) (fun v => trivial)
  unfold m_w_szExpr at hm
  refine wp_seq ?_
  refine wp_region_lit ?_
  refine seq_op ha hs rfl (opT_box (u := .agg #[va0]) (l := [va0]) rfl rfl rfl) (List.Perm.refl _) rfl ?_
  rintro _ aq1 wq1 ⟨g1, rfl⟩ haq1 (hsq1 : St I w0 wq1 [Ch.blk g1 [va0] 193, F])
  clear ha hs a w
  refine seq_op0 haq1 hsq1 (opT_assign (v := .int .i64 0) rfl rfl) rfl rfl ?_
  rintro u aq2 wq2 hf haq2 hsq2
  obtain rfl := Eq.symm hf
  clear haq1 hsq1 aq1 wq1
  refine wpList_nil ?_
  replace haq2 := haq2.pick' (L' := [(1, .int .i64 p1left), (2, .pointer (some ⟨g1, 0, none⟩))]) ⟨rfl, rfl, trivial⟩
  refine nrm ?_
  refine wp_seq ?_
  refine wp_region_lit ?_
  refine seq_op0 haq2 hsq2 (opT_field_addr (g := g1) (b := 0) tf193_0 rfl rfl) rfl rfl ?_
  rintro u aq3 wq3 hf haq3 hsq3
  obtain rfl := Eq.symm hf
  clear haq2 hsq2 aq2 wq2
  refine seq_op haq3 hsq3 rfl (opT_load_blk (g := g1) (off := 0) (E := 193) (l := [va0]) (d := [va0]) (u := va0) ti191 rfl rfl rfl rfl rfl rfl) (perm_front (i := 0) rfl) rfl ?_
  rintro u aq4 wq4 hf haq4 (hsq4 : St I w0 wq4 [Ch.blk g1 [va0] 193, F])
  obtain rfl := Eq.symm hf
  clear haq3 hsq3 aq3 wq3
  refine seq_op0 haq4 hsq4 (opT_move (v := .int .i64 p1left) rfl rfl) rfl rfl ?_
  rintro u aq5 wq5 hf haq5 hsq5
  obtain rfl := Eq.symm hf
  clear haq4 hsq4 aq4 wq4
  obtain ⟨r1, e1, hm⟩ := bind_some hm
  refine seq_op0 haq5 hsq5 (opT_call (args := #[va0, .int .i64 p1left]) (first := #[]) (captured := #[]) en190 rfl rfl rfl (c_w_szTokenS p0a p1left _ e1 va0 ra0)) rfl rfl ?_
  rintro u aq6 wq6 hf haq6 hsq6
  obtain rfl := Eq.symm hf
  clear haq5 hsq5 aq5 wq5
  refine seq_op0 haq6 hsq6 (opT_assign (v := .int .i64 r1) rfl rfl) rfl rfl ?_
  rintro u aq7 wq7 hf haq7 hsq7
  obtain rfl := Eq.symm hf
  clear haq6 hsq6 aq6 wq6
  refine wpList_nil ?_
  replace haq7 := haq7.pick' (L' := [(1, .int .i64 r1)]) ⟨rfl, trivial⟩
  refine nrm ?_
  refine wp_seq ?_
  refine wp_seq ?_
  refine wp_region_lit ?_
  refine seq_op0 haq7 hsq7 (opT_move (v := .int .i64 r1) rfl rfl) rfl rfl ?_
  rintro u aq8 wq8 hf haq8 hsq8
  obtain rfl := Eq.symm hf
  clear haq7 hsq7 aq7 wq7
  refine seq_op0 haq8 hsq8 (opT_cmp (k := .i64) (m := r1) (n := 0) (c := decide (r1 < 0)) rfl rfl rfl rfl rfl) rfl rfl ?_
  rintro u aq9 wq9 hf haq9 hsq9
  obtain rfl := Eq.symm hf
  clear haq8 hsq8 aq8 wq8
  refine wpList_nil ?_
  replace haq9 := haq9.pick' (L' := [(1, .int .i64 r1), (10, .bool (decide (r1 < 0)))]) ⟨rfl, rfl, trivial⟩
  refine nrm ?_
  rcases two (decide (r1 < 0)) with hb1 | hb1
  · replace hm := ifFe hb1 hm
    refine cnd_false (b := decide (r1 < 0)) haq9 rfl rfl hb1 ?_
    refine wp_skip ?_
    refine nrm ?_
    refine wp_seq ?_
    refine wp_region_lit ?_
    refine seq_op0 haq9 hsq9 (opT_move (v := .int .i64 r1) rfl rfl) rfl rfl ?_
    rintro u aq10 wq10 hf haq10 hsq10
    obtain rfl := Eq.symm hf
    clear haq9 hsq9 aq9 wq9
    refine seq_op0 haq10 hsq10 (opT_assign (v := .int .i64 r1) rfl rfl) rfl rfl ?_
    rintro u aq11 wq11 hf haq11 hsq11
    obtain rfl := Eq.symm hf
    clear haq10 hsq10 aq10 wq10
    refine wpList_nil ?_
    replace haq11 := haq11.pick' (L' := [(4, .int .i64 r1)]) ⟨rfl, trivial⟩
    refine nrm ?_
    refine wp_ret ?_
    obtain rfl := Option.some.inj hm
    exact ret_1 haq11 rfl (res_tmp haq11 rfl) ⟨_, rfl, rfl, _, Hp.le.rfl, St.sel (hsq11) 2 [1] rfl rfl⟩
  · replace hm := ifTe hb1 hm
    refine cnd_true (b := decide (r1 < 0)) haq9 rfl rfl hb1 ?_
    refine wp_seq ?_
    refine wp_region_lit ?_
    refine seq_op0 haq9 hsq9 (opT_assign (v := .int .i64 (-1)) rfl rfl) rfl rfl ?_
    rintro u aq12 wq12 hf haq12 hsq12
    obtain rfl := Eq.symm hf
    clear haq9 hsq9 aq9 wq9
    refine wpList_nil ?_
    replace haq12 := haq12.pick' (L' := [(4, .int .i64 (-1))]) ⟨rfl, trivial⟩
    refine nrm ?_
    refine wp_ret ?_
    refine thenR ?_
    obtain rfl := Option.some.inj hm
    exact ret_1 haq12 rfl (res_tmp haq12 rfl) ⟨_, rfl, rfl, _, Hp.le.rfl, St.sel (hsq12) 2 [1] rfl rfl⟩
end Go.Proofs.Ytcihbmdppgpmjaa.D
