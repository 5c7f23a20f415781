/- Printed by dec.py: models of functions and the walks that show them. -/
import Derived.Test.YtcihbmdppgpmjaaEm
set_option linter.unusedVariables false
set_option linter.unusedSimpArgs false
set_option linter.unnecessarySimpa false
set_option maxRecDepth 100000
namespace Go.Proofs.Ytcihbmdppgpmjaa.D
open Go.RowKit
set_option maxHeartbeats 8000000 in
theorem c_s_EqualExprs (p0a : (List (Int × Int × Int × Int))) (p1b : (List (Int × Int × Int × Int))) (r : Bool) (hm : m_s_EqualExprs p0a p1b = some r) {I : Hp} {w0 : World} (va0 : Value) (va1 : Value) (ra0 : (rSlice 197 (rProd rInt (rProd rInt (rProd rInt rInt)))).rd I [va0] p0a) (ra1 : (rSlice 197 (rProd rInt (rProd rInt (rProd rInt rInt)))).rd I [va1] p1b) : Con Try.prog 132 #[.agg #[va0], .agg #[va1]] I w0 [] (fun v => v = .bool r) (fun v => []) := by
  refine con_of_wp (n := 31) [(0, .agg #[va0]), (1, .agg #[va1])] Try.func132 rfl rfl (Nat.le_of_ble_eq_true rfl) (args_all ⟨rfl, rfl, trivial⟩) (fun F w a ha hs => ?_) (fun v => trivial)
  unfold m_s_EqualExprs at hm
  refine wp_seq ?_
  refine wp_region_lit ?_
  refine seq_op ha hs rfl (opT_box (u := .agg #[va0]) (l := [va0]) rfl rfl rfl) (List.Perm.refl _) rfl ?_
  rintro _ aq1 wq1 ⟨g1, rfl⟩ haq1 (hsq1 : St I w0 wq1 [Ch.blk g1 [va0] 145, F])
  clear ha hs a w
  refine seq_op haq1 hsq1 rfl (opT_box (u := .agg #[va1]) (l := [va1]) rfl rfl rfl) (List.Perm.refl _) rfl ?_
  rintro _ aq2 wq2 ⟨g2, rfl⟩ haq2 (hsq2 : St I w0 wq2 [Ch.blk g2 [va1] 145, Ch.blk g1 [va0] 145, F])
  clear haq1 hsq1 aq1 wq1
  refine seq_op0 haq2 hsq2 (opT_assign (v := .bool false) rfl rfl) rfl rfl ?_
  rintro u aq3 wq3 hf haq3 hsq3
  obtain rfl := Eq.symm hf
  clear haq2 hsq2 aq2 wq2
  refine wpList_nil ?_
  replace haq3 := haq3.pick' (L' := [(2, .pointer (some ⟨g1, 0, none⟩)), (3, .pointer (some ⟨g2, 0, none⟩))]) ⟨rfl, rfl, trivial⟩
  refine nrm ?_
  refine wp_seq ?_
  refine wp_seq ?_
  refine wp_region_lit ?_
  refine seq_op0 haq3 hsq3 (opT_field_addr (g := g1) (b := 0) tf145_0 rfl rfl) rfl rfl ?_
  rintro u aq4 wq4 hf haq4 hsq4
  obtain rfl := Eq.symm hf
  clear haq3 hsq3 aq3 wq3
  refine seq_op haq4 hsq4 rfl (opT_load_blk (g := g1) (off := 0) (E := 145) (l := [va0]) (d := [va0]) (u := va0) ti143 rfl rfl rfl rfl rfl rfl) (perm_front (i := 1) rfl) rfl ?_
  rintro u aq5 wq5 hf haq5 (hsq5 : St I w0 wq5 [Ch.blk g1 [va0] 145, Ch.blk g2 [va1] 145, F])
  obtain rfl := Eq.symm hf
  clear haq4 hsq4 aq4 wq4
  refine seq_op0 haq5 hsq5 (opT_len_hd (v := va0) (n := p0a.length) (Hd.of_rd ra0) Try.underlying143 rfl rfl) rfl rfl ?_
  rintro u aq6 wq6 hf haq6 hsq6
  obtain rfl := Eq.symm hf
  clear haq5 hsq5 aq5 wq5
  refine seq_op0 haq6 hsq6 (opT_field_addr (g := g2) (b := 0) tf145_0 rfl rfl) rfl rfl ?_
  rintro u aq7 wq7 hf haq7 hsq7
  obtain rfl := Eq.symm hf
  clear haq6 hsq6 aq6 wq6
  refine seq_op haq7 hsq7 rfl (opT_load_blk (g := g2) (off := 0) (E := 145) (l := [va1]) (d := [va1]) (u := va1) ti143 rfl rfl rfl rfl rfl rfl) (perm_front (i := 1) rfl) rfl ?_
  rintro u aq8 wq8 hf haq8 (hsq8 : St I w0 wq8 [Ch.blk g2 [va1] 145, Ch.blk g1 [va0] 145, F])
  obtain rfl := Eq.symm hf
  clear haq7 hsq7 aq7 wq7
  refine seq_op0 haq8 hsq8 (opT_len_hd (v := va1) (n := p1b.length) (Hd.of_rd ra1) Try.underlying143 rfl rfl) rfl rfl ?_
  rintro u aq9 wq9 hf haq9 hsq9
  obtain rfl := Eq.symm hf
  clear haq8 hsq8 aq8 wq8
  refine seq_op0 haq9 hsq9 (opT_cmp (k := .i64) (m := (p0a.length : Int)) (n := (p1b.length : Int)) (c := (p0a.length : Int) != (p1b.length : Int)) rfl rfl rfl rfl rfl) rfl rfl ?_
  rintro u aq10 wq10 hf haq10 hsq10
  obtain rfl := Eq.symm hf
  clear haq9 hsq9 aq9 wq9
  refine wpList_nil ?_
  replace haq10 := haq10.pick' (L' := [(2, .pointer (some ⟨g1, 0, none⟩)), (3, .pointer (some ⟨g2, 0, none⟩)), (12, .bool ((p0a.length : Int) != (p1b.length : Int)))]) ⟨rfl, rfl, rfl, trivial⟩
  refine nrm ?_
  rcases two ((p0a.length : Int) != (p1b.length : Int)) with hb1 | hb1
  · replace hm := ifFe hb1 hm
    refine cnd_false (b := (p0a.length : Int) != (p1b.length : Int)) haq10 rfl rfl hb1 ?_
    refine wp_skip ?_
    refine nrm ?_
    refine wp_seq ?_
    refine wp_seq ?_
    refine wp_region_lit ?_
    refine seq_op0 haq10 hsq10 (opT_assign (v := .int .i64 0) rfl rfl) rfl rfl ?_
    rintro u aq11 wq11 hf haq11 hsq11
    obtain rfl := Eq.symm hf
    clear haq10 hsq10 aq10 wq10
    refine wpList_nil ?_
    replace haq11 := haq11.pick' (L' := [(2, .pointer (some ⟨g1, 0, none⟩)), (3, .pointer (some ⟨g2, 0, none⟩)), (5, .int .i64 0)]) ⟨rfl, rfl, rfl, trivial⟩
    refine nrm ?_
    obtain ⟨o1, hl1, hc1⟩ := bindL_some hm
    refine wp_cut (fun a w => ∃ s4 : Int, o1 = .brk s4 ∧ Agr 31 a [] ∧ St I w0 w [F]) ?_ ?_
    · refine wp_block (wp_loopM (R := Bool) (S := Int) (fun s3 a w => Agr 31 a [(2, .pointer (some ⟨g1, 0, none⟩)), (3, .pointer (some ⟨g2, 0, none⟩)), (5, .int .i64 s3)] ∧ St I w0 w [Ch.blk g1 [va0] 145, Ch.blk g2 [va1] 145, F]) hl1 ?_ ?_)
      · exact ⟨haq11.pick' ⟨rfl, rfl, rfl, trivial⟩, St.sel hsq11 3 [1, 0, 2] rfl rfl⟩
      · rintro s3 o2 hm hf1 aq30 wq30 ⟨haq30, hsq30⟩
        unfold m_s_EqualExprs_l0 at hm
        refine wp_seq ?_
        refine wp_seq ?_
        refine wp_region_lit ?_
        refine seq_op0 haq30 hsq30 (opT_move (v := .int .i64 s3) rfl rfl) rfl rfl ?_
        rintro u aq31 wq31 hf haq31 hsq31
        obtain rfl := Eq.symm hf
        clear haq30 hsq30 aq30 wq30
        refine seq_op0 haq31 hsq31 (opT_field_addr (g := g1) (b := 0) tf145_0 rfl rfl) rfl rfl ?_
        rintro u aq32 wq32 hf haq32 hsq32
        obtain rfl := Eq.symm hf
        clear haq31 hsq31 aq31 wq31
        refine seq_op haq32 hsq32 rfl (opT_load_blk (g := g1) (off := 0) (E := 145) (l := [va0]) (d := [va0]) (u := va0) ti143 rfl rfl rfl rfl rfl rfl) (perm_front (i := 0) rfl) rfl ?_
        rintro u aq33 wq33 hf haq33 (hsq33 : St I w0 wq33 [Ch.blk g1 [va0] 145, Ch.blk g2 [va1] 145, F])
        obtain rfl := Eq.symm hf
        clear haq32 hsq32 aq32 wq32
        refine seq_op0 haq33 hsq33 (opT_len_hd (v := va0) (n := p0a.length) (Hd.of_rd ra0) Try.underlying143 rfl rfl) rfl rfl ?_
        rintro u aq34 wq34 hf haq34 hsq34
        obtain rfl := Eq.symm hf
        clear haq33 hsq33 aq33 wq33
        refine seq_op0 haq34 hsq34 (opT_cmp (k := .i64) (m := s3) (n := (p0a.length : Int)) (c := decide (s3 < (p0a.length : Int))) rfl rfl rfl rfl rfl) rfl rfl ?_
        rintro u aq35 wq35 hf haq35 hsq35
        obtain rfl := Eq.symm hf
        clear haq34 hsq34 aq34 wq34
        refine wpList_nil ?_
        replace haq35 := haq35.pick' (L' := [(2, .pointer (some ⟨g1, 0, none⟩)), (3, .pointer (some ⟨g2, 0, none⟩)), (5, .int .i64 s3), (17, .bool (decide (s3 < (p0a.length : Int))))]) ⟨rfl, rfl, rfl, rfl, trivial⟩
        refine nrm ?_
        rcases two (decide (s3 < (p0a.length : Int))) with hb6 | hb6
        · replace hm := ifFe hb6 hm
          refine cnd_false (b := decide (s3 < (p0a.length : Int))) haq35 rfl rfl hb6 ?_
          refine wp_exit ?_
          refine thenX ?_
          refine thenX ?_
          refine ex_in ?_
          refine nrm ?_
          exact ⟨_, loopBrk hm hf1, ⟨haq35.pick' trivial, St.sel hsq35 3 [2] rfl rfl⟩⟩
        · replace hm := ifTe hb6 hm
          refine cnd_true (b := decide (s3 < (p0a.length : Int))) haq35 rfl rfl hb6 ?_
          refine wp_skip ?_
          refine nrm ?_
          refine wp_seq ?_
          refine wp_block ?_
          refine wp_seq ?_
          obtain ⟨x5, e5, hm⟩ := bind_some hm
          obtain ⟨x6, e6, hm⟩ := bind_some hm
          refine wp_draw (L := [(2, .pointer (some ⟨g1, 0, none⟩)), (3, .pointer (some ⟨g2, 0, none⟩)), (5, .int .i64 s3), (17, .bool (decide (s3 < (p0a.length : Int))))]) (C := [F]) { ops := [⟨[], [], [], [0], fun | [xo0] => xo0 = .pointer (some ⟨g1, 0, none⟩) | _ => True, [(2, none)]⟩, ⟨[0], [], [], [1], fun | [xo1] => xo1 = va0 | _ => True, [(20, some 0)]⟩, ⟨[], [], [], [2], fun | [xo2] => xo2 = .int .i64 s3 | _ => True, [(5, none)]⟩, ⟨[], [], [], [3], fun | [xo3] => xo3 = pt va0 (s3.toNat * 4) | _ => True, [(21, some 1), (22, some 2)]⟩, ⟨[], [], [], [4], fun | [xo4] => xo4 = .agg #[.int .i64 x5.1, .int .i64 x5.2.1, .int .i64 x5.2.2.1, .int .i64 x5.2.2.2] | _ => True, [(23, some 3)]⟩, ⟨[], [], [], [5], fun | [xo5] => xo5 = .pointer (some ⟨g2, 0, none⟩) | _ => True, [(3, none)]⟩, ⟨[1], [], [], [6], fun | [xo6] => xo6 = va1 | _ => True, [(25, some 5)]⟩, ⟨[], [], [], [7], fun | [xo7] => xo7 = .int .i64 s3 | _ => True, [(5, none)]⟩, ⟨[], [], [], [8], fun | [xo8] => xo8 = pt va1 (s3.toNat * 4) | _ => True, [(26, some 6), (27, some 7)]⟩, ⟨[], [], [], [9], fun | [xo9] => xo9 = .agg #[.int .i64 x6.1, .int .i64 x6.2.1, .int .i64 x6.2.2.1, .int .i64 x6.2.2.2] | _ => True, [(28, some 8)]⟩, ⟨[], [], [], [10], fun | [xo10] => xo10 = .bool (!((x5.1 == x6.1) && ((x5.2.1 == x6.2.1) && ((x5.2.2.1 == x6.2.2.1) && ((x5.2.2.2 == x6.2.2.2) && true))))) | _ => True, [(24, some 4), (29, some 9)]⟩], res := [⟨[], fun _ => Ch.blk g1 [va0] 145⟩, ⟨[], fun _ => Ch.blk g2 [va1] 145⟩], base := [0, 1], pre := [[], [0], [], [0, 1, 2], [0, 1, 2, 3], [], [5], [], [5, 6, 7], [5, 6, 7, 8], [0, 1, 2, 3, 4, 5, 6, 7, 8, 9]], fin := [(2, none), (3, none), (5, none), (30, some 10)], left := [0, 1] } (by kernel_rfl) haq35 hsq35 (perm_sel [0, 1, 2] (m := 3) rfl rfl) (by kernel_rfl) (by kernel_rfl) ?_ ?_
          · exact ⟨Plan.goal_run fun vs hf => ⟨wants_none rfl, OpT.conv (OpT.evs (ev' := evL [(2, .pointer (some ⟨g1, 0, none⟩))]) (opT_field_addr (g := g1) (b := 0) tf145_0 rfl rfl) rfl [.tmp 2] rfl ⟨rfl, trivial⟩) rfl (fun _ h => Eq.trans h rfl) (fun _ => rfl)⟩, Plan.goal_run fun vs hf => ⟨wants_none rfl, OpT.conv (OpT.evs (ev' := evL [(20, .pointer (some ⟨g1, 0, none⟩))]) (opT_load_blk (g := g1) (off := 0) (E := 145) (l := [va0]) (d := [va0]) (u := va0) ti143 rfl rfl rfl rfl rfl rfl) rfl [.tmp 20] rfl ⟨(hf 0 (mb rfl)), trivial⟩) rfl (fun _ h => Eq.trans h rfl) (fun _ => rfl)⟩, Plan.goal_run fun vs hf => ⟨wants_none rfl, OpT.conv (OpT.evs (ev' := evL [(5, .int .i64 s3)]) (opT_move (v := .int .i64 s3) rfl rfl) rfl [.tmp 5] rfl ⟨rfl, trivial⟩) rfl (fun _ h => Eq.trans h rfl) (fun _ => rfl)⟩, Plan.goal_run fun vs hf => ⟨wants_none rfl, OpT.conv (OpT.evs (ev' := evL [(21, va0), (22, .int .i64 s3)]) (opT_index_hd (xs := p0a) (i := s3) (n := 4) (Hd.of_rd ra0) Try.underlying143 ti197 rfl rfl rfl (getI_in e5)) rfl [.tmp 21, .tmp 22] rfl ⟨(hf 1 (mb rfl)), (hf 2 (mb rfl)), trivial⟩) rfl (fun _ h => Eq.trans h rfl) (fun _ => rfl)⟩, Plan.goal_run fun vs hf => ⟨wants_none rfl, OpT.conv (OpT.evs (ev' := evL [(23, pt va0 (s3.toNat * 4))]) (opT_load_el (S := rProd rInt (rProd rInt (rProd rInt rInt))) (xs := p0a) (a := x5) (i := s3) (k := 4) (off := 0) (f := fun (x : Int × Int × Int × Int) => x) ra0 e5 Fld.self ti197 rfl rfl rfl rfl rfl) rfl [.tmp 23] rfl ⟨(hf 3 (mb rfl)), trivial⟩) rfl (fun u h => by obtain ⟨d, hd, h⟩ := h; obtain ⟨_, _, rfl, rfl, ⟨_, _, rfl, rfl, ⟨_, _, rfl, rfl, rfl⟩⟩⟩ := hd; exact h) (fun _ => rfl)⟩, Plan.goal_run fun vs hf => ⟨wants_none rfl, OpT.conv (OpT.evs (ev' := evL [(3, .pointer (some ⟨g2, 0, none⟩))]) (opT_field_addr (g := g2) (b := 0) tf145_0 rfl rfl) rfl [.tmp 3] rfl ⟨rfl, trivial⟩) rfl (fun _ h => Eq.trans h rfl) (fun _ => rfl)⟩, Plan.goal_run fun vs hf => ⟨wants_none rfl, OpT.conv (OpT.evs (ev' := evL [(25, .pointer (some ⟨g2, 0, none⟩))]) (opT_load_blk (g := g2) (off := 0) (E := 145) (l := [va1]) (d := [va1]) (u := va1) ti143 rfl rfl rfl rfl rfl rfl) rfl [.tmp 25] rfl ⟨(hf 5 (mb rfl)), trivial⟩) rfl (fun _ h => Eq.trans h rfl) (fun _ => rfl)⟩, Plan.goal_run fun vs hf => ⟨wants_none rfl, OpT.conv (OpT.evs (ev' := evL [(5, .int .i64 s3)]) (opT_move (v := .int .i64 s3) rfl rfl) rfl [.tmp 5] rfl ⟨rfl, trivial⟩) rfl (fun _ h => Eq.trans h rfl) (fun _ => rfl)⟩, Plan.goal_run fun vs hf => ⟨wants_none rfl, OpT.conv (OpT.evs (ev' := evL [(26, va1), (27, .int .i64 s3)]) (opT_index_hd (xs := p1b) (i := s3) (n := 4) (Hd.of_rd ra1) Try.underlying143 ti197 rfl rfl rfl (getI_in e6)) rfl [.tmp 26, .tmp 27] rfl ⟨(hf 6 (mb rfl)), (hf 7 (mb rfl)), trivial⟩) rfl (fun _ h => Eq.trans h rfl) (fun _ => rfl)⟩, Plan.goal_run fun vs hf => ⟨wants_none rfl, OpT.conv (OpT.evs (ev' := evL [(28, pt va1 (s3.toNat * 4))]) (opT_load_el (S := rProd rInt (rProd rInt (rProd rInt rInt))) (xs := p1b) (a := x6) (i := s3) (k := 4) (off := 0) (f := fun (x : Int × Int × Int × Int) => x) ra1 e6 Fld.self ti197 rfl rfl rfl rfl rfl) rfl [.tmp 28] rfl ⟨(hf 8 (mb rfl)), trivial⟩) rfl (fun u h => by obtain ⟨d, hd, h⟩ := h; obtain ⟨_, _, rfl, rfl, ⟨_, _, rfl, rfl, ⟨_, _, rfl, rfl, rfl⟩⟩⟩ := hd; exact h) (fun _ => rfl)⟩, Plan.goal_run fun vs hf => ⟨wants_none rfl, OpT.conv (OpT.evs (ev' := evL [(24, .agg #[.int .i64 x5.1, .int .i64 x5.2.1, .int .i64 x5.2.2.1, .int .i64 x5.2.2.2]), (29, .agg #[.int .i64 x6.1, .int .i64 x6.2.1, .int .i64 x6.2.2.1, .int .i64 x6.2.2.2])]) (opT_nev (fun w => eqt197 x5.1 x5.2.1 x5.2.2.1 x5.2.2.2 x6.1 x6.2.1 x6.2.2.1 x6.2.2.2 w) rfl rfl rfl rfl) rfl [.tmp 24, .tmp 29] rfl ⟨(hf 4 (mb rfl)), (hf 9 (mb rfl)), trivial⟩) rfl (fun _ h => Eq.trans h rfl) (fun _ => rfl)⟩, trivial⟩
          intro vs aq36 wq36 hf haq36 hsq36
          clear haq35 hsq35
          replace haq36 := haq36.pick' (L' := [(2, .pointer (some ⟨g1, 0, none⟩)), (3, .pointer (some ⟨g2, 0, none⟩)), (5, .int .i64 s3), (30, .bool (!((x5.1 == x6.1) && ((x5.2.1 == x6.2.1) && ((x5.2.2.1 == x6.2.2.1) && ((x5.2.2.2 == x6.2.2.2) && true))))))]) ⟨rfl, rfl, rfl, (congrArg some (show _ = _ from (hf 10 (Nat.le_of_ble_eq_true rfl)))), trivial⟩
          replace hsq36 : St I w0 wq36 [Ch.blk g1 [va0] 145, Ch.blk g2 [va1] 145, F] := hsq36
          clear hf vs
          refine nrm ?_
          rcases two ((x5.1 == x6.1) && ((x5.2.1 == x6.2.1) && ((x5.2.2.1 == x6.2.2.1) && ((x5.2.2.2 == x6.2.2.2) && true)))) with hb7 | hb7
          · replace hm := ifFe hb7 hm
            refine cnd_true (b := !((x5.1 == x6.1) && ((x5.2.1 == x6.2.1) && ((x5.2.2.1 == x6.2.2.1) && ((x5.2.2.2 == x6.2.2.2) && true))))) haq36 rfl rfl (notT hb7) ?_
            refine wp_seq ?_
            refine wp_region_lit ?_
            refine seq_op0 haq36 hsq36 (opT_assign (v := .bool false) rfl rfl) rfl rfl ?_
            rintro u aq37 wq37 hf haq37 hsq37
            obtain rfl := Eq.symm hf
            clear haq36 hsq36 aq36 wq36
            refine wpList_nil ?_
            replace haq37 := haq37.pick' (L' := [(4, .bool false)]) ⟨rfl, trivial⟩
            refine nrm ?_
            refine wp_ret ?_
            refine blkR ?_
            refine thenR ?_
            refine thenR ?_
            refine blkR ?_
            refine thenR ?_
            refine thenR ?_
            replace hm := loopRet hm hf1 hc1
            obtain rfl := Option.some.inj hm
            exact ret_1 haq37 rfl (res_tmp haq37 rfl) ⟨_, rfl, rfl, _, Hp.le.rfl, St.sel (hsq37) 3 [2] rfl rfl⟩
          · replace hm := ifTe hb7 hm
            refine cnd_false (b := !((x5.1 == x6.1) && ((x5.2.1 == x6.2.1) && ((x5.2.2.1 == x6.2.2.1) && ((x5.2.2.2 == x6.2.2.2) && true))))) haq36 rfl rfl (notF hb7) ?_
            refine wp_skip ?_
            refine nrmB ?_
            refine nrm ?_
            refine wp_region_lit ?_
            refine seq_op0 haq36 hsq36 (opT_move (v := .int .i64 s3) rfl rfl) rfl rfl ?_
            rintro u aq38 wq38 hf haq38 hsq38
            obtain rfl := Eq.symm hf
            clear haq36 hsq36 aq36 wq36
            refine seq_op0 haq38 hsq38 (opT_add (m := s3) (n := 1) rfl rfl rfl) rfl rfl ?_
            rintro u aq39 wq39 hf haq39 hsq39
            obtain rfl := Eq.symm hf
            clear haq38 hsq38 aq38 wq38
            refine seq_op0 haq39 hsq39 (opT_assign (v := .int .i64 (IntKind.i64.wrap (s3 + 1))) rfl rfl) rfl rfl ?_
            rintro u aq40 wq40 hf haq40 hsq40
            obtain rfl := Eq.symm hf
            clear haq39 hsq39 aq39 wq39
            refine wpList_nil ?_
            replace haq40 := haq40.pick' (L' := [(2, .pointer (some ⟨g1, 0, none⟩)), (3, .pointer (some ⟨g2, 0, none⟩)), (5, .int .i64 (IntKind.i64.wrap (s3 + 1)))]) ⟨rfl, rfl, rfl, trivial⟩
            refine nrm ?_
            exact ⟨_, (Option.some.inj hm).symm, ⟨haq40.pick' ⟨rfl, rfl, rfl, trivial⟩, St.sel hsq40 3 [0, 1, 2] rfl rfl⟩⟩
    · rintro aq41 wq41 ⟨s4, ho1, haq41, hsq41⟩
      replace hm := loopOut ho1 hc1
      clear ho1 hc1 hl1
      refine nrm ?_
      refine wp_seq ?_
      refine wp_region_lit ?_
      refine seq_op0 haq41 hsq41 (opT_assign (v := .bool true) rfl rfl) rfl rfl ?_
      rintro u aq42 wq42 hf haq42 hsq42
      obtain rfl := Eq.symm hf
      clear haq41 hsq41 aq41 wq41
      refine wpList_nil ?_
      replace haq42 := haq42.pick' (L' := [(4, .bool true)]) ⟨rfl, trivial⟩
      refine nrm ?_
      refine wp_ret ?_
      obtain rfl := Option.some.inj hm
      exact ret_1 haq42 rfl (res_tmp haq42 rfl) ⟨_, rfl, rfl, _, Hp.le.rfl, St.sel (hsq42) 1 [0] rfl rfl⟩
  · replace hm := ifTe hb1 hm
    refine cnd_true (b := (p0a.length : Int) != (p1b.length : Int)) haq10 rfl rfl hb1 ?_
    refine wp_seq ?_
    refine wp_region_lit ?_
    refine seq_op0 haq10 hsq10 (opT_assign (v := .bool false) rfl rfl) rfl rfl ?_
    rintro u aq43 wq43 hf haq43 hsq43
    obtain rfl := Eq.symm hf
    clear haq10 hsq10 aq10 wq10
    refine wpList_nil ?_
    replace haq43 := haq43.pick' (L' := [(4, .bool false)]) ⟨rfl, trivial⟩
    refine nrm ?_
    refine wp_ret ?_
    refine thenR ?_
    obtain rfl := Option.some.inj hm
    exact ret_1 haq43 rfl (res_tmp haq43 rfl) ⟨_, rfl, rfl, _, Hp.le.rfl, St.sel (hsq43) 3 [2] rfl rfl⟩
set_option maxHeartbeats 8000000 in
theorem c_w_eqEdge (p0a : Int × Int × Int × Int) (p1b : Int × Int × Int × Int) (r : Bool) (hm : m_w_eqEdge p0a p1b = some r) {I : Hp} {w0 : World} : Con Try.prog 121 #[.agg #[.int .i64 p0a.1, .int .i64 p0a.2.1, .int .i64 p0a.2.2.1, .int .i64 p0a.2.2.2], .agg #[.int .i64 p1b.1, .int .i64 p1b.2.1, .int .i64 p1b.2.2.1, .int .i64 p1b.2.2.2]] I w0 [] (fun v => v = .bool r) (fun v => []) := by
  refine con_of_wp (n := 25) [(0, .agg #[.int .i64 p0a.1, .int .i64 p0a.2.1, .int .i64 p0a.2.2.1, .int .i64 p0a.2.2.2]), (1, .agg #[.int .i64 p1b.1, .int .i64 p1b.2.1, .int .i64 p1b.2.2.1, .int .i64 p1b.2.2.2])] Try.func121 rfl rfl (Nat.le_of_ble_eq_true rfl) (args_all ⟨rfl, rfl, trivial⟩) (fun F w a ha hs => ?_) (fun v => trivial)
  unfold m_w_eqEdge at hm
  refine wp_seq ?_
  refine wp_region_lit ?_
  refine seq_op ha hs rfl (opT_box (u := .agg #[.int .i64 p0a.1, .int .i64 p0a.2.1, .int .i64 p0a.2.2.1, .int .i64 p0a.2.2.2]) (l := [.int .i64 p0a.1, .int .i64 p0a.2.1, .int .i64 p0a.2.2.1, .int .i64 p0a.2.2.2]) rfl rfl rfl) (List.Perm.refl _) rfl ?_
  rintro _ aq1 wq1 ⟨g1, rfl⟩ haq1 (hsq1 : St I w0 wq1 [Ch.blk g1 [.int .i64 p0a.1, .int .i64 p0a.2.1, .int .i64 p0a.2.2.1, .int .i64 p0a.2.2.2] 126, F])
  clear ha hs a w
  refine seq_op haq1 hsq1 rfl (opT_box (u := .agg #[.int .i64 p1b.1, .int .i64 p1b.2.1, .int .i64 p1b.2.2.1, .int .i64 p1b.2.2.2]) (l := [.int .i64 p1b.1, .int .i64 p1b.2.1, .int .i64 p1b.2.2.1, .int .i64 p1b.2.2.2]) rfl rfl rfl) (List.Perm.refl _) rfl ?_
  rintro _ aq2 wq2 ⟨g2, rfl⟩ haq2 (hsq2 : St I w0 wq2 [Ch.blk g2 [.int .i64 p1b.1, .int .i64 p1b.2.1, .int .i64 p1b.2.2.1, .int .i64 p1b.2.2.2] 126, Ch.blk g1 [.int .i64 p0a.1, .int .i64 p0a.2.1, .int .i64 p0a.2.2.1, .int .i64 p0a.2.2.2] 126, F])
  clear haq1 hsq1 aq1 wq1
  refine seq_op0 haq2 hsq2 (opT_assign (v := .bool false) rfl rfl) rfl rfl ?_
  rintro u aq3 wq3 hf haq3 hsq3
  obtain rfl := Eq.symm hf
  clear haq2 hsq2 aq2 wq2
  refine wpList_nil ?_
  replace haq3 := haq3.pick' (L' := [(2, .pointer (some ⟨g1, 0, none⟩)), (3, .pointer (some ⟨g2, 0, none⟩))]) ⟨rfl, rfl, trivial⟩
  refine nrm ?_
  refine wp_seq ?_
  refine wp_seq ?_
  refine wp_region_lit ?_
  refine seq_op0 haq3 hsq3 (opT_field_addr (g := g1) (b := 0) tf126_0 rfl rfl) rfl rfl ?_
  rintro u aq4 wq4 hf haq4 hsq4
  obtain rfl := Eq.symm hf
  clear haq3 hsq3 aq3 wq3
  refine seq_op haq4 hsq4 rfl (opT_load_blk (g := g1) (off := 0) (E := 126) (l := [.int .i64 p0a.1, .int .i64 p0a.2.1, .int .i64 p0a.2.2.1, .int .i64 p0a.2.2.2]) (d := [.int .i64 p0a.1]) (u := .int .i64 p0a.1) ti3 rfl rfl rfl rfl rfl rfl) (perm_front (i := 1) rfl) rfl ?_
  rintro u aq5 wq5 hf haq5 (hsq5 : St I w0 wq5 [Ch.blk g1 [.int .i64 p0a.1, .int .i64 p0a.2.1, .int .i64 p0a.2.2.1, .int .i64 p0a.2.2.2] 126, Ch.blk g2 [.int .i64 p1b.1, .int .i64 p1b.2.1, .int .i64 p1b.2.2.1, .int .i64 p1b.2.2.2] 126, F])
  obtain rfl := Eq.symm hf
  clear haq4 hsq4 aq4 wq4
  refine seq_op0 haq5 hsq5 (opT_field_addr (g := g2) (b := 0) tf126_0 rfl rfl) rfl rfl ?_
  rintro u aq6 wq6 hf haq6 hsq6
  obtain rfl := Eq.symm hf
  clear haq5 hsq5 aq5 wq5
  refine seq_op haq6 hsq6 rfl (opT_load_blk (g := g2) (off := 0) (E := 126) (l := [.int .i64 p1b.1, .int .i64 p1b.2.1, .int .i64 p1b.2.2.1, .int .i64 p1b.2.2.2]) (d := [.int .i64 p1b.1]) (u := .int .i64 p1b.1) ti3 rfl rfl rfl rfl rfl rfl) (perm_front (i := 1) rfl) rfl ?_
  rintro u aq7 wq7 hf haq7 (hsq7 : St I w0 wq7 [Ch.blk g2 [.int .i64 p1b.1, .int .i64 p1b.2.1, .int .i64 p1b.2.2.1, .int .i64 p1b.2.2.2] 126, Ch.blk g1 [.int .i64 p0a.1, .int .i64 p0a.2.1, .int .i64 p0a.2.2.1, .int .i64 p0a.2.2.2] 126, F])
  obtain rfl := Eq.symm hf
  clear haq6 hsq6 aq6 wq6
  refine seq_op0 haq7 hsq7 (opT_cmp (k := .i64) (m := p0a.1) (n := p1b.1) (c := p0a.1 != p1b.1) rfl rfl rfl rfl rfl) rfl rfl ?_
  rintro u aq8 wq8 hf haq8 hsq8
  obtain rfl := Eq.symm hf
  clear haq7 hsq7 aq7 wq7
  refine wpList_nil ?_
  replace haq8 := haq8.pick' (L' := [(2, .pointer (some ⟨g1, 0, none⟩)), (3, .pointer (some ⟨g2, 0, none⟩)), (9, .bool (p0a.1 != p1b.1))]) ⟨rfl, rfl, rfl, trivial⟩
  refine nrm ?_
  rcases two (p0a.1 != p1b.1) with hb1 | hb1
  · replace hm := ifFe hb1 hm
    refine cnd_false (b := p0a.1 != p1b.1) haq8 rfl rfl hb1 ?_
    refine wp_skip ?_
    refine nrm ?_
    refine wp_seq ?_
    refine wp_seq ?_
    refine wp_region_lit ?_
    refine seq_op0 haq8 hsq8 (opT_field_addr (g := g1) (b := 0) tf126_1 rfl rfl) rfl rfl ?_
    rintro u aq9 wq9 hf haq9 hsq9
    obtain rfl := Eq.symm hf
    clear haq8 hsq8 aq8 wq8
    refine seq_op haq9 hsq9 rfl (opT_load_blk (g := g1) (off := 1) (E := 126) (l := [.int .i64 p0a.1, .int .i64 p0a.2.1, .int .i64 p0a.2.2.1, .int .i64 p0a.2.2.2]) (d := [.int .i64 p0a.2.1]) (u := .int .i64 p0a.2.1) ti3 rfl rfl rfl rfl rfl rfl) (perm_front (i := 1) rfl) rfl ?_
    rintro u aq10 wq10 hf haq10 (hsq10 : St I w0 wq10 [Ch.blk g1 [.int .i64 p0a.1, .int .i64 p0a.2.1, .int .i64 p0a.2.2.1, .int .i64 p0a.2.2.2] 126, Ch.blk g2 [.int .i64 p1b.1, .int .i64 p1b.2.1, .int .i64 p1b.2.2.1, .int .i64 p1b.2.2.2] 126, F])
    obtain rfl := Eq.symm hf
    clear haq9 hsq9 aq9 wq9
    refine seq_op0 haq10 hsq10 (opT_field_addr (g := g2) (b := 0) tf126_1 rfl rfl) rfl rfl ?_
    rintro u aq11 wq11 hf haq11 hsq11
    obtain rfl := Eq.symm hf
    clear haq10 hsq10 aq10 wq10
    refine seq_op haq11 hsq11 rfl (opT_load_blk (g := g2) (off := 1) (E := 126) (l := [.int .i64 p1b.1, .int .i64 p1b.2.1, .int .i64 p1b.2.2.1, .int .i64 p1b.2.2.2]) (d := [.int .i64 p1b.2.1]) (u := .int .i64 p1b.2.1) ti3 rfl rfl rfl rfl rfl rfl) (perm_front (i := 1) rfl) rfl ?_
    rintro u aq12 wq12 hf haq12 (hsq12 : St I w0 wq12 [Ch.blk g2 [.int .i64 p1b.1, .int .i64 p1b.2.1, .int .i64 p1b.2.2.1, .int .i64 p1b.2.2.2] 126, Ch.blk g1 [.int .i64 p0a.1, .int .i64 p0a.2.1, .int .i64 p0a.2.2.1, .int .i64 p0a.2.2.2] 126, F])
    obtain rfl := Eq.symm hf
    clear haq11 hsq11 aq11 wq11
    refine seq_op0 haq12 hsq12 (opT_cmp (k := .i64) (m := p0a.2.1) (n := p1b.2.1) (c := p0a.2.1 != p1b.2.1) rfl rfl rfl rfl rfl) rfl rfl ?_
    rintro u aq13 wq13 hf haq13 hsq13
    obtain rfl := Eq.symm hf
    clear haq12 hsq12 aq12 wq12
    refine wpList_nil ?_
    replace haq13 := haq13.pick' (L' := [(2, .pointer (some ⟨g1, 0, none⟩)), (3, .pointer (some ⟨g2, 0, none⟩)), (14, .bool (p0a.2.1 != p1b.2.1))]) ⟨rfl, rfl, rfl, trivial⟩
    refine nrm ?_
    rcases two (p0a.2.1 != p1b.2.1) with hb2 | hb2
    · replace hm := ifFe hb2 hm
      refine cnd_false (b := p0a.2.1 != p1b.2.1) haq13 rfl rfl hb2 ?_
      refine wp_skip ?_
      refine nrm ?_
      refine wp_seq ?_
      refine wp_seq ?_
      refine wp_region_lit ?_
      refine seq_op0 haq13 hsq13 (opT_field_addr (g := g1) (b := 0) tf126_2 rfl rfl) rfl rfl ?_
      rintro u aq14 wq14 hf haq14 hsq14
      obtain rfl := Eq.symm hf
      clear haq13 hsq13 aq13 wq13
      refine seq_op haq14 hsq14 rfl (opT_load_blk (g := g1) (off := 2) (E := 126) (l := [.int .i64 p0a.1, .int .i64 p0a.2.1, .int .i64 p0a.2.2.1, .int .i64 p0a.2.2.2]) (d := [.int .i64 p0a.2.2.1]) (u := .int .i64 p0a.2.2.1) ti3 rfl rfl rfl rfl rfl rfl) (perm_front (i := 1) rfl) rfl ?_
      rintro u aq15 wq15 hf haq15 (hsq15 : St I w0 wq15 [Ch.blk g1 [.int .i64 p0a.1, .int .i64 p0a.2.1, .int .i64 p0a.2.2.1, .int .i64 p0a.2.2.2] 126, Ch.blk g2 [.int .i64 p1b.1, .int .i64 p1b.2.1, .int .i64 p1b.2.2.1, .int .i64 p1b.2.2.2] 126, F])
      obtain rfl := Eq.symm hf
      clear haq14 hsq14 aq14 wq14
      refine seq_op0 haq15 hsq15 (opT_field_addr (g := g2) (b := 0) tf126_2 rfl rfl) rfl rfl ?_
      rintro u aq16 wq16 hf haq16 hsq16
      obtain rfl := Eq.symm hf
      clear haq15 hsq15 aq15 wq15
      refine seq_op haq16 hsq16 rfl (opT_load_blk (g := g2) (off := 2) (E := 126) (l := [.int .i64 p1b.1, .int .i64 p1b.2.1, .int .i64 p1b.2.2.1, .int .i64 p1b.2.2.2]) (d := [.int .i64 p1b.2.2.1]) (u := .int .i64 p1b.2.2.1) ti3 rfl rfl rfl rfl rfl rfl) (perm_front (i := 1) rfl) rfl ?_
      rintro u aq17 wq17 hf haq17 (hsq17 : St I w0 wq17 [Ch.blk g2 [.int .i64 p1b.1, .int .i64 p1b.2.1, .int .i64 p1b.2.2.1, .int .i64 p1b.2.2.2] 126, Ch.blk g1 [.int .i64 p0a.1, .int .i64 p0a.2.1, .int .i64 p0a.2.2.1, .int .i64 p0a.2.2.2] 126, F])
      obtain rfl := Eq.symm hf
      clear haq16 hsq16 aq16 wq16
      refine seq_op0 haq17 hsq17 (opT_cmp (k := .i64) (m := p0a.2.2.1) (n := p1b.2.2.1) (c := p0a.2.2.1 != p1b.2.2.1) rfl rfl rfl rfl rfl) rfl rfl ?_
      rintro u aq18 wq18 hf haq18 hsq18
      obtain rfl := Eq.symm hf
      clear haq17 hsq17 aq17 wq17
      refine wpList_nil ?_
      replace haq18 := haq18.pick' (L' := [(2, .pointer (some ⟨g1, 0, none⟩)), (3, .pointer (some ⟨g2, 0, none⟩)), (19, .bool (p0a.2.2.1 != p1b.2.2.1))]) ⟨rfl, rfl, rfl, trivial⟩
      refine nrm ?_
      rcases two (p0a.2.2.1 != p1b.2.2.1) with hb3 | hb3
      · replace hm := ifFe hb3 hm
        refine cnd_false (b := p0a.2.2.1 != p1b.2.2.1) haq18 rfl rfl hb3 ?_
        refine wp_skip ?_
        refine nrm ?_
        refine wp_seq ?_
        refine wp_seq ?_
        refine wp_region_lit ?_
        refine seq_op0 haq18 hsq18 (opT_field_addr (g := g1) (b := 0) tf126_3 rfl rfl) rfl rfl ?_
        rintro u aq19 wq19 hf haq19 hsq19
        obtain rfl := Eq.symm hf
        clear haq18 hsq18 aq18 wq18
        refine seq_op haq19 hsq19 rfl (opT_load_blk (g := g1) (off := 3) (E := 126) (l := [.int .i64 p0a.1, .int .i64 p0a.2.1, .int .i64 p0a.2.2.1, .int .i64 p0a.2.2.2]) (d := [.int .i64 p0a.2.2.2]) (u := .int .i64 p0a.2.2.2) ti3 rfl rfl rfl rfl rfl rfl) (perm_front (i := 1) rfl) rfl ?_
        rintro u aq20 wq20 hf haq20 (hsq20 : St I w0 wq20 [Ch.blk g1 [.int .i64 p0a.1, .int .i64 p0a.2.1, .int .i64 p0a.2.2.1, .int .i64 p0a.2.2.2] 126, Ch.blk g2 [.int .i64 p1b.1, .int .i64 p1b.2.1, .int .i64 p1b.2.2.1, .int .i64 p1b.2.2.2] 126, F])
        obtain rfl := Eq.symm hf
        clear haq19 hsq19 aq19 wq19
        refine seq_op0 haq20 hsq20 (opT_field_addr (g := g2) (b := 0) tf126_3 rfl rfl) rfl rfl ?_
        rintro u aq21 wq21 hf haq21 hsq21
        obtain rfl := Eq.symm hf
        clear haq20 hsq20 aq20 wq20
        refine seq_op haq21 hsq21 rfl (opT_load_blk (g := g2) (off := 3) (E := 126) (l := [.int .i64 p1b.1, .int .i64 p1b.2.1, .int .i64 p1b.2.2.1, .int .i64 p1b.2.2.2]) (d := [.int .i64 p1b.2.2.2]) (u := .int .i64 p1b.2.2.2) ti3 rfl rfl rfl rfl rfl rfl) (perm_front (i := 1) rfl) rfl ?_
        rintro u aq22 wq22 hf haq22 (hsq22 : St I w0 wq22 [Ch.blk g2 [.int .i64 p1b.1, .int .i64 p1b.2.1, .int .i64 p1b.2.2.1, .int .i64 p1b.2.2.2] 126, Ch.blk g1 [.int .i64 p0a.1, .int .i64 p0a.2.1, .int .i64 p0a.2.2.1, .int .i64 p0a.2.2.2] 126, F])
        obtain rfl := Eq.symm hf
        clear haq21 hsq21 aq21 wq21
        refine seq_op0 haq22 hsq22 (opT_cmp (k := .i64) (m := p0a.2.2.2) (n := p1b.2.2.2) (c := p0a.2.2.2 != p1b.2.2.2) rfl rfl rfl rfl rfl) rfl rfl ?_
        rintro u aq23 wq23 hf haq23 hsq23
        obtain rfl := Eq.symm hf
        clear haq22 hsq22 aq22 wq22
        refine wpList_nil ?_
        replace haq23 := haq23.pick' (L' := [(24, .bool (p0a.2.2.2 != p1b.2.2.2))]) ⟨rfl, trivial⟩
        refine nrm ?_
        rcases two (p0a.2.2.2 != p1b.2.2.2) with hb4 | hb4
        · replace hm := ifFe hb4 hm
          refine cnd_false (b := p0a.2.2.2 != p1b.2.2.2) haq23 rfl rfl hb4 ?_
          refine wp_skip ?_
          refine nrm ?_
          refine wp_seq ?_
          refine wp_region_lit ?_
          refine seq_op0 haq23 hsq23 (opT_assign (v := .bool true) rfl rfl) rfl rfl ?_
          rintro u aq24 wq24 hf haq24 hsq24
          obtain rfl := Eq.symm hf
          clear haq23 hsq23 aq23 wq23
          refine wpList_nil ?_
          replace haq24 := haq24.pick' (L' := [(4, .bool true)]) ⟨rfl, trivial⟩
          refine nrm ?_
          refine wp_ret ?_
          obtain rfl := Option.some.inj hm
          exact ret_1 haq24 rfl (res_tmp haq24 rfl) ⟨_, rfl, rfl, _, Hp.le.rfl, St.sel (hsq24) 3 [2] rfl rfl⟩
        · replace hm := ifTe hb4 hm
          refine cnd_true (b := p0a.2.2.2 != p1b.2.2.2) haq23 rfl rfl hb4 ?_
          refine wp_seq ?_
          refine wp_region_lit ?_
          refine seq_op0 haq23 hsq23 (opT_assign (v := .bool false) rfl rfl) rfl rfl ?_
          rintro u aq25 wq25 hf haq25 hsq25
          obtain rfl := Eq.symm hf
          clear haq23 hsq23 aq23 wq23
          refine wpList_nil ?_
          replace haq25 := haq25.pick' (L' := [(4, .bool false)]) ⟨rfl, trivial⟩
          refine nrm ?_
          refine wp_ret ?_
          refine thenR ?_
          obtain rfl := Option.some.inj hm
          exact ret_1 haq25 rfl (res_tmp haq25 rfl) ⟨_, rfl, rfl, _, Hp.le.rfl, St.sel (hsq25) 3 [2] rfl rfl⟩
      · replace hm := ifTe hb3 hm
        refine cnd_true (b := p0a.2.2.1 != p1b.2.2.1) haq18 rfl rfl hb3 ?_
        refine wp_seq ?_
        refine wp_region_lit ?_
        refine seq_op0 haq18 hsq18 (opT_assign (v := .bool false) rfl rfl) rfl rfl ?_
        rintro u aq26 wq26 hf haq26 hsq26
        obtain rfl := Eq.symm hf
        clear haq18 hsq18 aq18 wq18
        refine wpList_nil ?_
        replace haq26 := haq26.pick' (L' := [(4, .bool false)]) ⟨rfl, trivial⟩
        refine nrm ?_
        refine wp_ret ?_
        refine thenR ?_
        obtain rfl := Option.some.inj hm
        exact ret_1 haq26 rfl (res_tmp haq26 rfl) ⟨_, rfl, rfl, _, Hp.le.rfl, St.sel (hsq26) 3 [2] rfl rfl⟩
    · replace hm := ifTe hb2 hm
      refine cnd_true (b := p0a.2.1 != p1b.2.1) haq13 rfl rfl hb2 ?_
      refine wp_seq ?_
      refine wp_region_lit ?_
      refine seq_op0 haq13 hsq13 (opT_assign (v := .bool false) rfl rfl) rfl rfl ?_
      rintro u aq27 wq27 hf haq27 hsq27
      obtain rfl := Eq.symm hf
      clear haq13 hsq13 aq13 wq13
      refine wpList_nil ?_
      replace haq27 := haq27.pick' (L' := [(4, .bool false)]) ⟨rfl, trivial⟩
      refine nrm ?_
      refine wp_ret ?_
      refine thenR ?_
      obtain rfl := Option.some.inj hm
      exact ret_1 haq27 rfl (res_tmp haq27 rfl) ⟨_, rfl, rfl, _, Hp.le.rfl, St.sel (hsq27) 3 [2] rfl rfl⟩
  · replace hm := ifTe hb1 hm
    refine cnd_true (b := p0a.1 != p1b.1) haq8 rfl rfl hb1 ?_
    refine wp_seq ?_
    refine wp_region_lit ?_
    refine seq_op0 haq8 hsq8 (opT_assign (v := .bool false) rfl rfl) rfl rfl ?_
    rintro u aq28 wq28 hf haq28 hsq28
    obtain rfl := Eq.symm hf
    clear haq8 hsq8 aq8 wq8
    refine wpList_nil ?_
    replace haq28 := haq28.pick' (L' := [(4, .bool false)]) ⟨rfl, trivial⟩
    refine nrm ?_
    refine wp_ret ?_
    refine thenR ?_
    obtain rfl := Option.some.inj hm
    exact ret_1 haq28 rfl (res_tmp haq28 rfl) ⟨_, rfl, rfl, _, Hp.le.rfl, St.sel (hsq28) 3 [2] rfl rfl⟩
set_option maxHeartbeats 8000000 in
theorem c_g_slices_Equal_S_Subscriber_Subscriber (p0s1 : List (Int × Int × Int)) (p1s2 : List (Int × Int × Int)) (r : Bool) (hm : m_g_slices_Equal_S_Subscriber_Subscriber p0s1 p1s2 = some r) {I : Hp} {w0 : World} (va0 : Value) (va1 : Value) (ra0 : (rSlice 107 (rProd rInt (rProd rInt rInt))).rd I [va0] p0s1) (ra1 : (rSlice 107 (rProd rInt (rProd rInt rInt))).rd I [va1] p1s2) : Con Try.prog 88 #[va0, va1] I w0 [] (fun v => v = .bool r) (fun v => []) := by
  refine con_of_wp (n := 26) [(0, va0), (1, va1)] Try.func88 rfl rfl (Nat.le_of_ble_eq_true rfl) (args_all ⟨rfl, rfl, trivial⟩) (fun F w a ha hs => ?_) (fun v => trivial)
  unfold m_g_slices_Equal_S_Subscriber_Subscriber at hm
  refine wp_seq ?_
  refine wp_region_lit ?_
  refine seq_op0 ha hs (opT_assign (v := .bool false) rfl rfl) rfl rfl ?_
  rintro u aq1 wq1 hf haq1 hsq1
  obtain rfl := Eq.symm hf
  clear ha hs a w
  refine wpList_nil ?_
  replace haq1 := haq1.pick' (L' := [(0, va0), (1, va1)]) ⟨rfl, rfl, trivial⟩
  refine nrm ?_
  refine wp_seq ?_
  refine wp_seq ?_
  refine wp_region_lit ?_
  refine seq_op0 haq1 hsq1 (opT_move (v := va0) rfl rfl) rfl rfl ?_
  rintro u aq2 wq2 hf haq2 hsq2
  obtain rfl := Eq.symm hf
  clear haq1 hsq1 aq1 wq1
  refine seq_op0 haq2 hsq2 (opT_len_hd (v := va0) (n := p0s1.length) (Hd.of_rd ra0) Try.underlying76 rfl rfl) rfl rfl ?_
  rintro u aq3 wq3 hf haq3 hsq3
  obtain rfl := Eq.symm hf
  clear haq2 hsq2 aq2 wq2
  refine seq_op0 haq3 hsq3 (opT_move (v := va1) rfl rfl) rfl rfl ?_
  rintro u aq4 wq4 hf haq4 hsq4
  obtain rfl := Eq.symm hf
  clear haq3 hsq3 aq3 wq3
  refine seq_op0 haq4 hsq4 (opT_len_hd (v := va1) (n := p1s2.length) (Hd.of_rd ra1) Try.underlying76 rfl rfl) rfl rfl ?_
  rintro u aq5 wq5 hf haq5 hsq5
  obtain rfl := Eq.symm hf
  clear haq4 hsq4 aq4 wq4
  refine seq_op0 haq5 hsq5 (opT_cmp (k := .i64) (m := (p0s1.length : Int)) (n := (p1s2.length : Int)) (c := (p0s1.length : Int) != (p1s2.length : Int)) rfl rfl rfl rfl rfl) rfl rfl ?_
  rintro u aq6 wq6 hf haq6 hsq6
  obtain rfl := Eq.symm hf
  clear haq5 hsq5 aq5 wq5
  refine wpList_nil ?_
  replace haq6 := haq6.pick' (L' := [(0, va0), (1, va1), (10, .bool ((p0s1.length : Int) != (p1s2.length : Int)))]) ⟨rfl, rfl, rfl, trivial⟩
  refine nrm ?_
  rcases two ((p0s1.length : Int) != (p1s2.length : Int)) with hb1 | hb1
  · replace hm := ifFe hb1 hm
    refine cnd_false (b := (p0s1.length : Int) != (p1s2.length : Int)) haq6 rfl rfl hb1 ?_
    refine wp_skip ?_
    refine nrm ?_
    refine wp_seq ?_
    refine wp_seq ?_
    refine wp_region_lit ?_
    refine seq_op0 haq6 hsq6 (opT_move (v := va0) rfl rfl) rfl rfl ?_
    rintro u aq7 wq7 hf haq7 hsq7
    obtain rfl := Eq.symm hf
    clear haq6 hsq6 aq6 wq6
    refine seq_op0 haq7 hsq7 (opT_len_hd (v := va0) (n := p0s1.length) (Hd.of_rd ra0) Try.underlying76 rfl rfl) rfl rfl ?_
    rintro u aq8 wq8 hf haq8 hsq8
    obtain rfl := Eq.symm hf
    clear haq7 hsq7 aq7 wq7
    refine seq_op0 haq8 hsq8 (opT_move (v := .int .i64 0) rfl rfl) rfl rfl ?_
    rintro u aq9 wq9 hf haq9 hsq9
    obtain rfl := Eq.symm hf
    clear haq8 hsq8 aq8 wq8
    refine wpList_nil ?_
    replace haq9 := haq9.pick' (L' := [(0, va0), (1, va1), (12, .int .i64 (p0s1.length : Int)), (13, .int .i64 0)]) ⟨rfl, rfl, rfl, rfl, trivial⟩
    refine nrm ?_
    obtain ⟨o1, hl1, hc1⟩ := bindL_some hm
    refine wp_cut (fun a w => ∃ s4 : Int, o1 = .brk s4 ∧ Agr 26 a [] ∧ St I w0 w [F]) ?_ ?_
    · refine wp_block (wp_loopM (R := Bool) (S := Int) (fun s3 a w => Agr 26 a [(0, va0), (1, va1), (12, .int .i64 (p0s1.length : Int)), (13, .int .i64 s3)] ∧ St I w0 w [F]) hl1 ?_ ?_)
      · exact ⟨haq9.pick' ⟨rfl, rfl, rfl, rfl, trivial⟩, St.sel hsq9 1 [0] rfl rfl⟩
      · rintro s3 o2 hm hf1 aq22 wq22 ⟨haq22, hsq22⟩
        unfold m_g_slices_Equal_S_Subscriber_Subscriber_l0 at hm
        refine wp_seq ?_
        refine wp_region_lit ?_
        refine seq_op0 haq22 hsq22 (opT_cmp (k := .i64) (m := s3) (n := (p0s1.length : Int)) (c := decide (s3 < (p0s1.length : Int))) rfl rfl rfl rfl rfl) rfl rfl ?_
        rintro u aq23 wq23 hf haq23 hsq23
        obtain rfl := Eq.symm hf
        clear haq22 hsq22 aq22 wq22
        refine wpList_nil ?_
        replace haq23 := haq23.pick' (L' := [(0, va0), (1, va1), (12, .int .i64 (p0s1.length : Int)), (13, .int .i64 s3), (14, .bool (decide (s3 < (p0s1.length : Int))))]) ⟨rfl, rfl, rfl, rfl, rfl, trivial⟩
        refine nrm ?_
        refine wp_seq ?_
        rcases two (decide (s3 < (p0s1.length : Int))) with hb6 | hb6
        · replace hm := ifFe hb6 hm
          refine cnd_false (b := decide (s3 < (p0s1.length : Int))) haq23 rfl rfl hb6 ?_
          refine wp_exit ?_
          refine thenX ?_
          refine thenX ?_
          refine ex_in ?_
          refine nrm ?_
          exact ⟨_, loopBrk hm hf1, ⟨haq23.pick' trivial, St.sel hsq23 1 [0] rfl rfl⟩⟩
        · replace hm := ifTe hb6 hm
          refine cnd_true (b := decide (s3 < (p0s1.length : Int))) haq23 rfl rfl hb6 ?_
          refine wp_skip ?_
          refine nrm ?_
          refine wp_seq ?_
          refine wp_block ?_
          refine wp_seq ?_
          refine wp_region_lit ?_
          refine seq_op0 haq23 hsq23 (opT_move (v := .int .i64 s3) rfl rfl) rfl rfl ?_
          rintro u aq24 wq24 hf haq24 hsq24
          obtain rfl := Eq.symm hf
          clear haq23 hsq23 aq23 wq23
          refine seq_op0 haq24 hsq24 (opT_assign (v := .int .i64 s3) rfl rfl) rfl rfl ?_
          rintro u aq25 wq25 hf haq25 hsq25
          obtain rfl := Eq.symm hf
          clear haq24 hsq24 aq24 wq24
          refine wpList_nil ?_
          replace haq25 := haq25.pick' (L' := [(0, va0), (1, va1), (5, .int .i64 s3), (12, .int .i64 (p0s1.length : Int)), (13, .int .i64 s3)]) ⟨rfl, rfl, rfl, rfl, rfl, trivial⟩
          refine nrm ?_
          refine wp_seq ?_
          obtain ⟨x5, e5, hm⟩ := bind_some hm
          obtain ⟨x6, e6, hm⟩ := bind_some hm
          refine wp_draw (L := [(0, va0), (1, va1), (5, .int .i64 s3), (12, .int .i64 (p0s1.length : Int)), (13, .int .i64 s3)]) (C := [F]) { ops := [⟨[], [], [], [0], fun | [xo0] => xo0 = va0 | _ => True, [(0, none)]⟩, ⟨[], [], [], [1], fun | [xo1] => xo1 = .int .i64 s3 | _ => True, [(5, none)]⟩, ⟨[], [], [], [2], fun | [xo2] => xo2 = pt va0 (s3.toNat * 3) | _ => True, [(16, some 0), (17, some 1)]⟩, ⟨[], [], [], [3], fun | [xo3] => xo3 = .agg #[.int .i64 x5.1, .int .i64 x5.2.1, .int .i64 x5.2.2] | _ => True, [(18, some 2)]⟩, ⟨[], [], [], [4], fun | [xo4] => xo4 = va1 | _ => True, [(1, none)]⟩, ⟨[], [], [], [5], fun | [xo5] => xo5 = .int .i64 s3 | _ => True, [(5, none)]⟩, ⟨[], [], [], [6], fun | [xo6] => xo6 = pt va1 (s3.toNat * 3) | _ => True, [(20, some 4), (21, some 5)]⟩, ⟨[], [], [], [7], fun | [xo7] => xo7 = .agg #[.int .i64 x6.1, .int .i64 x6.2.1, .int .i64 x6.2.2] | _ => True, [(22, some 6)]⟩, ⟨[], [], [], [8], fun | [xo8] => xo8 = .bool (!((x5.1 == x6.1) && ((x5.2.1 == x6.2.1) && ((x5.2.2 == x6.2.2) && true)))) | _ => True, [(19, some 3), (23, some 7)]⟩], res := [], base := [], pre := [[], [], [0, 1], [0, 1, 2], [], [], [4, 5], [4, 5, 6], [0, 1, 2, 3, 4, 5, 6, 7]], fin := [(0, none), (1, none), (12, none), (13, none), (24, some 8)], left := [] } (by kernel_rfl) haq25 hsq25 (perm_sel [0] (m := 1) rfl rfl) (by kernel_rfl) (by kernel_rfl) ?_ ?_
          · exact ⟨Plan.goal_run fun vs hf => ⟨wants_none rfl, OpT.conv (OpT.evs (ev' := evL [(0, va0)]) (opT_move (v := va0) rfl rfl) rfl [.tmp 0] rfl ⟨rfl, trivial⟩) rfl (fun _ h => Eq.trans h rfl) (fun _ => rfl)⟩, Plan.goal_run fun vs hf => ⟨wants_none rfl, OpT.conv (OpT.evs (ev' := evL [(5, .int .i64 s3)]) (opT_move (v := .int .i64 s3) rfl rfl) rfl [.tmp 5] rfl ⟨rfl, trivial⟩) rfl (fun _ h => Eq.trans h rfl) (fun _ => rfl)⟩, Plan.goal_run fun vs hf => ⟨wants_none rfl, OpT.conv (OpT.evs (ev' := evL [(16, va0), (17, .int .i64 s3)]) (opT_index_hd (xs := p0s1) (i := s3) (n := 3) (Hd.of_rd ra0) Try.underlying76 ti107 rfl rfl rfl (getI_in e5)) rfl [.tmp 16, .tmp 17] rfl ⟨(hf 0 (mb rfl)), (hf 1 (mb rfl)), trivial⟩) rfl (fun _ h => Eq.trans h rfl) (fun _ => rfl)⟩, Plan.goal_run fun vs hf => ⟨wants_none rfl, OpT.conv (OpT.evs (ev' := evL [(18, pt va0 (s3.toNat * 3))]) (opT_load_el (S := rProd rInt (rProd rInt rInt)) (xs := p0s1) (a := x5) (i := s3) (k := 3) (off := 0) (f := fun (x : Int × Int × Int) => x) ra0 e5 Fld.self ti107 rfl rfl rfl rfl rfl) rfl [.tmp 18] rfl ⟨(hf 2 (mb rfl)), trivial⟩) rfl (fun u h => by obtain ⟨d, hd, h⟩ := h; obtain ⟨_, _, rfl, rfl, ⟨_, _, rfl, rfl, rfl⟩⟩ := hd; exact h) (fun _ => rfl)⟩, Plan.goal_run fun vs hf => ⟨wants_none rfl, OpT.conv (OpT.evs (ev' := evL [(1, va1)]) (opT_move (v := va1) rfl rfl) rfl [.tmp 1] rfl ⟨rfl, trivial⟩) rfl (fun _ h => Eq.trans h rfl) (fun _ => rfl)⟩, Plan.goal_run fun vs hf => ⟨wants_none rfl, OpT.conv (OpT.evs (ev' := evL [(5, .int .i64 s3)]) (opT_move (v := .int .i64 s3) rfl rfl) rfl [.tmp 5] rfl ⟨rfl, trivial⟩) rfl (fun _ h => Eq.trans h rfl) (fun _ => rfl)⟩, Plan.goal_run fun vs hf => ⟨wants_none rfl, OpT.conv (OpT.evs (ev' := evL [(20, va1), (21, .int .i64 s3)]) (opT_index_hd (xs := p1s2) (i := s3) (n := 3) (Hd.of_rd ra1) Try.underlying76 ti107 rfl rfl rfl (getI_in e6)) rfl [.tmp 20, .tmp 21] rfl ⟨(hf 4 (mb rfl)), (hf 5 (mb rfl)), trivial⟩) rfl (fun _ h => Eq.trans h rfl) (fun _ => rfl)⟩, Plan.goal_run fun vs hf => ⟨wants_none rfl, OpT.conv (OpT.evs (ev' := evL [(22, pt va1 (s3.toNat * 3))]) (opT_load_el (S := rProd rInt (rProd rInt rInt)) (xs := p1s2) (a := x6) (i := s3) (k := 3) (off := 0) (f := fun (x : Int × Int × Int) => x) ra1 e6 Fld.self ti107 rfl rfl rfl rfl rfl) rfl [.tmp 22] rfl ⟨(hf 6 (mb rfl)), trivial⟩) rfl (fun u h => by obtain ⟨d, hd, h⟩ := h; obtain ⟨_, _, rfl, rfl, ⟨_, _, rfl, rfl, rfl⟩⟩ := hd; exact h) (fun _ => rfl)⟩, Plan.goal_run fun vs hf => ⟨wants_none rfl, OpT.conv (OpT.evs (ev' := evL [(19, .agg #[.int .i64 x5.1, .int .i64 x5.2.1, .int .i64 x5.2.2]), (23, .agg #[.int .i64 x6.1, .int .i64 x6.2.1, .int .i64 x6.2.2])]) (opT_nev (fun w => eqt107 x5.1 x5.2.1 x5.2.2 x6.1 x6.2.1 x6.2.2 w) rfl rfl rfl rfl) rfl [.tmp 19, .tmp 23] rfl ⟨(hf 3 (mb rfl)), (hf 7 (mb rfl)), trivial⟩) rfl (fun _ h => Eq.trans h rfl) (fun _ => rfl)⟩, trivial⟩
          intro vs aq26 wq26 hf haq26 hsq26
          clear haq25 hsq25
          replace haq26 := haq26.pick' (L' := [(0, va0), (1, va1), (12, .int .i64 (p0s1.length : Int)), (13, .int .i64 s3), (24, .bool (!((x5.1 == x6.1) && ((x5.2.1 == x6.2.1) && ((x5.2.2 == x6.2.2) && true)))))]) ⟨rfl, rfl, rfl, rfl, (congrArg some (show _ = _ from (hf 8 (Nat.le_of_ble_eq_true rfl)))), trivial⟩
          replace hsq26 : St I w0 wq26 [F] := hsq26
          clear hf vs
          refine nrm ?_
          rcases two ((x5.1 == x6.1) && ((x5.2.1 == x6.2.1) && ((x5.2.2 == x6.2.2) && true))) with hb7 | hb7
          · replace hm := ifFe hb7 hm
            refine cnd_true (b := !((x5.1 == x6.1) && ((x5.2.1 == x6.2.1) && ((x5.2.2 == x6.2.2) && true)))) haq26 rfl rfl (notT hb7) ?_
            refine wp_seq ?_
            refine wp_region_lit ?_
            refine seq_op0 haq26 hsq26 (opT_assign (v := .bool false) rfl rfl) rfl rfl ?_
            rintro u aq27 wq27 hf haq27 hsq27
            obtain rfl := Eq.symm hf
            clear haq26 hsq26 aq26 wq26
            refine wpList_nil ?_
            replace haq27 := haq27.pick' (L' := [(4, .bool false)]) ⟨rfl, trivial⟩
            refine nrm ?_
            refine wp_ret ?_
            refine blkR ?_
            refine thenR ?_
            refine thenR ?_
            refine blkR ?_
            refine thenR ?_
            refine thenR ?_
            replace hm := loopRet hm hf1 hc1
            obtain rfl := Option.some.inj hm
            exact ret_1 haq27 rfl (res_tmp haq27 rfl) ⟨_, rfl, rfl, _, Hp.le.rfl, St.sel (hsq27) 1 [0] rfl rfl⟩
          · replace hm := ifTe hb7 hm
            refine cnd_false (b := !((x5.1 == x6.1) && ((x5.2.1 == x6.2.1) && ((x5.2.2 == x6.2.2) && true)))) haq26 rfl rfl (notF hb7) ?_
            refine wp_skip ?_
            refine nrmB ?_
            refine nrm ?_
            refine wp_region_lit ?_
            refine seq_op0 haq26 hsq26 (opT_add (m := s3) (n := 1) rfl rfl rfl) rfl rfl ?_
            rintro u aq28 wq28 hf haq28 hsq28
            obtain rfl := Eq.symm hf
            clear haq26 hsq26 aq26 wq26
            refine seq_op0 haq28 hsq28 (opT_move (v := .int .i64 (IntKind.i64.wrap (s3 + 1))) rfl rfl) rfl rfl ?_
            rintro u aq29 wq29 hf haq29 hsq29
            obtain rfl := Eq.symm hf
            clear haq28 hsq28 aq28 wq28
            refine wpList_nil ?_
            replace haq29 := haq29.pick' (L' := [(0, va0), (1, va1), (12, .int .i64 (p0s1.length : Int)), (13, .int .i64 (IntKind.i64.wrap (s3 + 1)))]) ⟨rfl, rfl, rfl, rfl, trivial⟩
            refine nrm ?_
            exact ⟨_, (Option.some.inj hm).symm, ⟨haq29.pick' ⟨rfl, rfl, rfl, rfl, trivial⟩, St.sel hsq29 1 [0] rfl rfl⟩⟩
    · rintro aq30 wq30 ⟨s4, ho1, haq30, hsq30⟩
      replace hm := loopOut ho1 hc1
      clear ho1 hc1 hl1
      refine nrm ?_
      refine wp_seq ?_
      refine wp_region_lit ?_
      refine seq_op0 haq30 hsq30 (opT_assign (v := .bool true) rfl rfl) rfl rfl ?_
      rintro u aq31 wq31 hf haq31 hsq31
      obtain rfl := Eq.symm hf
      clear haq30 hsq30 aq30 wq30
      refine wpList_nil ?_
      replace haq31 := haq31.pick' (L' := [(4, .bool true)]) ⟨rfl, trivial⟩
      refine nrm ?_
      refine wp_ret ?_
      obtain rfl := Option.some.inj hm
      exact ret_1 haq31 rfl (res_tmp haq31 rfl) ⟨_, rfl, rfl, _, Hp.le.rfl, St.sel (hsq31) 1 [0] rfl rfl⟩
  · replace hm := ifTe hb1 hm
    refine cnd_true (b := (p0s1.length : Int) != (p1s2.length : Int)) haq6 rfl rfl hb1 ?_
    refine wp_seq ?_
    refine wp_region_lit ?_
    refine seq_op0 haq6 hsq6 (opT_assign (v := .bool false) rfl rfl) rfl rfl ?_
    rintro u aq32 wq32 hf haq32 hsq32
    obtain rfl := Eq.symm hf
    clear haq6 hsq6 aq6 wq6
    refine wpList_nil ?_
    replace haq32 := haq32.pick' (L' := [(4, .bool false)]) ⟨rfl, trivial⟩
    refine nrm ?_
    refine wp_ret ?_
    refine thenR ?_
    obtain rfl := Option.some.inj hm
    exact ret_1 haq32 rfl (res_tmp haq32 rfl) ⟨_, rfl, rfl, _, Hp.le.rfl, St.sel (hsq32) 1 [0] rfl rfl⟩
set_option maxHeartbeats 8000000 in
theorem c_w_eqBoolS (p0a : List Bool) (p1b : List Bool) (r : Bool) (hm : m_w_eqBoolS p0a p1b = some r) {I : Hp} {w0 : World} (va0 : Value) (va1 : Value) (ra0 : (rSlice 4 rBool).rd I [va0] p0a) (ra1 : (rSlice 4 rBool).rd I [va1] p1b) : Con Try.prog 53 #[va0, va1] I w0 [] (fun v => v = .bool r) (fun v => []) := by
  refine con_of_wp (n := 26) [(0, va0), (1, va1)] Try.func53 rfl rfl (Nat.le_of_ble_eq_true rfl) (args_all ⟨rfl, rfl, trivial⟩) (fun F w a ha hs => ?_) (fun v => trivial)
  unfold m_w_eqBoolS at hm
  refine wp_seq ?_
  refine wp_region_lit ?_
  refine seq_op0 ha hs (opT_assign (v := .bool false) rfl rfl) rfl rfl ?_
  rintro u aq1 wq1 hf haq1 hsq1
  obtain rfl := Eq.symm hf
  clear ha hs a w
  refine wpList_nil ?_
  replace haq1 := haq1.pick' (L' := [(0, va0), (1, va1)]) ⟨rfl, rfl, trivial⟩
  refine nrm ?_
  refine wp_seq ?_
  refine wp_seq ?_
  refine wp_region_lit ?_
  refine seq_op0 haq1 hsq1 (opT_move (v := va0) rfl rfl) rfl rfl ?_
  rintro u aq2 wq2 hf haq2 hsq2
  obtain rfl := Eq.symm hf
  clear haq1 hsq1 aq1 wq1
  refine seq_op0 haq2 hsq2 (opT_len_hd (v := va0) (n := p0a.length) (Hd.of_rd ra0) Try.underlying22 rfl rfl) rfl rfl ?_
  rintro u aq3 wq3 hf haq3 hsq3
  obtain rfl := Eq.symm hf
  clear haq2 hsq2 aq2 wq2
  refine seq_op0 haq3 hsq3 (opT_move (v := va1) rfl rfl) rfl rfl ?_
  rintro u aq4 wq4 hf haq4 hsq4
  obtain rfl := Eq.symm hf
  clear haq3 hsq3 aq3 wq3
  refine seq_op0 haq4 hsq4 (opT_len_hd (v := va1) (n := p1b.length) (Hd.of_rd ra1) Try.underlying22 rfl rfl) rfl rfl ?_
  rintro u aq5 wq5 hf haq5 hsq5
  obtain rfl := Eq.symm hf
  clear haq4 hsq4 aq4 wq4
  refine seq_op0 haq5 hsq5 (opT_cmp (k := .i64) (m := (p0a.length : Int)) (n := (p1b.length : Int)) (c := (p0a.length : Int) != (p1b.length : Int)) rfl rfl rfl rfl rfl) rfl rfl ?_
  rintro u aq6 wq6 hf haq6 hsq6
  obtain rfl := Eq.symm hf
  clear haq5 hsq5 aq5 wq5
  refine wpList_nil ?_
  replace haq6 := haq6.pick' (L' := [(0, va0), (1, va1), (10, .bool ((p0a.length : Int) != (p1b.length : Int)))]) ⟨rfl, rfl, rfl, trivial⟩
  refine nrm ?_
  rcases two ((p0a.length : Int) != (p1b.length : Int)) with hb1 | hb1
  · replace hm := ifFe hb1 hm
    refine cnd_false (b := (p0a.length : Int) != (p1b.length : Int)) haq6 rfl rfl hb1 ?_
    refine wp_skip ?_
    refine nrm ?_
    refine wp_seq ?_
    refine wp_seq ?_
    refine wp_region_lit ?_
    refine seq_op0 haq6 hsq6 (opT_assign (v := .int .i64 0) rfl rfl) rfl rfl ?_
    rintro u aq7 wq7 hf haq7 hsq7
    obtain rfl := Eq.symm hf
    clear haq6 hsq6 aq6 wq6
    refine wpList_nil ?_
    replace haq7 := haq7.pick' (L' := [(0, va0), (1, va1), (5, .int .i64 0)]) ⟨rfl, rfl, rfl, trivial⟩
    refine nrm ?_
    obtain ⟨o1, hl1, hc1⟩ := bindL_some hm
    refine wp_cut (fun a w => ∃ s4 : Int, o1 = .brk s4 ∧ Agr 26 a [] ∧ St I w0 w [F]) ?_ ?_
    · refine wp_block (wp_loopM (R := Bool) (S := Int) (fun s3 a w => Agr 26 a [(0, va0), (1, va1), (5, .int .i64 s3)] ∧ St I w0 w [F]) hl1 ?_ ?_)
      · exact ⟨haq7.pick' ⟨rfl, rfl, rfl, trivial⟩, St.sel hsq7 1 [0] rfl rfl⟩
      · rintro s3 o2 hm hf1 aq24 wq24 ⟨haq24, hsq24⟩
        unfold m_w_eqBoolS_l0 at hm
        refine wp_seq ?_
        refine wp_seq ?_
        refine wp_region_lit ?_
        refine seq_op0 haq24 hsq24 (opT_move (v := .int .i64 s3) rfl rfl) rfl rfl ?_
        rintro u aq25 wq25 hf haq25 hsq25
        obtain rfl := Eq.symm hf
        clear haq24 hsq24 aq24 wq24
        refine seq_op0 haq25 hsq25 (opT_move (v := va0) rfl rfl) rfl rfl ?_
        rintro u aq26 wq26 hf haq26 hsq26
        obtain rfl := Eq.symm hf
        clear haq25 hsq25 aq25 wq25
        refine seq_op0 haq26 hsq26 (opT_len_hd (v := va0) (n := p0a.length) (Hd.of_rd ra0) Try.underlying22 rfl rfl) rfl rfl ?_
        rintro u aq27 wq27 hf haq27 hsq27
        obtain rfl := Eq.symm hf
        clear haq26 hsq26 aq26 wq26
        refine seq_op0 haq27 hsq27 (opT_cmp (k := .i64) (m := s3) (n := (p0a.length : Int)) (c := decide (s3 < (p0a.length : Int))) rfl rfl rfl rfl rfl) rfl rfl ?_
        rintro u aq28 wq28 hf haq28 hsq28
        obtain rfl := Eq.symm hf
        clear haq27 hsq27 aq27 wq27
        refine wpList_nil ?_
        replace haq28 := haq28.pick' (L' := [(0, va0), (1, va1), (5, .int .i64 s3), (14, .bool (decide (s3 < (p0a.length : Int))))]) ⟨rfl, rfl, rfl, rfl, trivial⟩
        refine nrm ?_
        rcases two (decide (s3 < (p0a.length : Int))) with hb6 | hb6
        · replace hm := ifFe hb6 hm
          refine cnd_false (b := decide (s3 < (p0a.length : Int))) haq28 rfl rfl hb6 ?_
          refine wp_exit ?_
          refine thenX ?_
          refine thenX ?_
          refine ex_in ?_
          refine nrm ?_
          exact ⟨_, loopBrk hm hf1, ⟨haq28.pick' trivial, St.sel hsq28 1 [0] rfl rfl⟩⟩
        · replace hm := ifTe hb6 hm
          refine cnd_true (b := decide (s3 < (p0a.length : Int))) haq28 rfl rfl hb6 ?_
          refine wp_skip ?_
          refine nrm ?_
          refine wp_seq ?_
          refine wp_block ?_
          refine wp_seq ?_
          obtain ⟨x5, e5, hm⟩ := bind_some hm
          obtain ⟨x6, e6, hm⟩ := bind_some hm
          refine wp_draw (L := [(0, va0), (1, va1), (5, .int .i64 s3), (14, .bool (decide (s3 < (p0a.length : Int))))]) (C := [F]) { ops := [⟨[], [], [], [0], fun | [xo0] => xo0 = va0 | _ => True, [(0, none)]⟩, ⟨[], [], [], [1], fun | [xo1] => xo1 = .int .i64 s3 | _ => True, [(5, none)]⟩, ⟨[], [], [], [2], fun | [xo2] => xo2 = pt va0 (s3.toNat * 1) | _ => True, [(17, some 0), (18, some 1)]⟩, ⟨[], [], [], [3], fun | [xo3] => xo3 = .bool x5 | _ => True, [(19, some 2)]⟩, ⟨[], [], [], [4], fun | [xo4] => xo4 = va1 | _ => True, [(1, none)]⟩, ⟨[], [], [], [5], fun | [xo5] => xo5 = .int .i64 s3 | _ => True, [(5, none)]⟩, ⟨[], [], [], [6], fun | [xo6] => xo6 = pt va1 (s3.toNat * 1) | _ => True, [(21, some 4), (22, some 5)]⟩, ⟨[], [], [], [7], fun | [xo7] => xo7 = .bool x6 | _ => True, [(23, some 6)]⟩, ⟨[], [], [], [8], fun | [xo8] => xo8 = .bool (x5 != x6) | _ => True, [(20, some 3), (24, some 7)]⟩], res := [], base := [], pre := [[], [], [0, 1], [0, 1, 2], [], [], [4, 5], [4, 5, 6], [0, 1, 2, 3, 4, 5, 6, 7]], fin := [(0, none), (1, none), (5, none), (25, some 8)], left := [] } (by kernel_rfl) haq28 hsq28 (perm_sel [0] (m := 1) rfl rfl) (by kernel_rfl) (by kernel_rfl) ?_ ?_
          · exact ⟨Plan.goal_run fun vs hf => ⟨wants_none rfl, OpT.conv (OpT.evs (ev' := evL [(0, va0)]) (opT_move (v := va0) rfl rfl) rfl [.tmp 0] rfl ⟨rfl, trivial⟩) rfl (fun _ h => Eq.trans h rfl) (fun _ => rfl)⟩, Plan.goal_run fun vs hf => ⟨wants_none rfl, OpT.conv (OpT.evs (ev' := evL [(5, .int .i64 s3)]) (opT_move (v := .int .i64 s3) rfl rfl) rfl [.tmp 5] rfl ⟨rfl, trivial⟩) rfl (fun _ h => Eq.trans h rfl) (fun _ => rfl)⟩, Plan.goal_run fun vs hf => ⟨wants_none rfl, OpT.conv (OpT.evs (ev' := evL [(17, va0), (18, .int .i64 s3)]) (opT_index_hd (xs := p0a) (i := s3) (n := 1) (Hd.of_rd ra0) Try.underlying22 ti4 rfl rfl rfl (getI_in e5)) rfl [.tmp 17, .tmp 18] rfl ⟨(hf 0 (mb rfl)), (hf 1 (mb rfl)), trivial⟩) rfl (fun _ h => Eq.trans h rfl) (fun _ => rfl)⟩, Plan.goal_run fun vs hf => ⟨wants_none rfl, OpT.conv (OpT.evs (ev' := evL [(19, pt va0 (s3.toNat * 1))]) (opT_load_el (S := rBool) (xs := p0a) (a := x5) (i := s3) (k := 1) (off := 0) (f := fun (x : Bool) => x) ra0 e5 Fld.self ti4 rfl rfl rfl rfl rfl) rfl [.tmp 19] rfl ⟨(hf 2 (mb rfl)), trivial⟩) rfl (fun _ h => lds_one h) (fun _ => rfl)⟩, Plan.goal_run fun vs hf => ⟨wants_none rfl, OpT.conv (OpT.evs (ev' := evL [(1, va1)]) (opT_move (v := va1) rfl rfl) rfl [.tmp 1] rfl ⟨rfl, trivial⟩) rfl (fun _ h => Eq.trans h rfl) (fun _ => rfl)⟩, Plan.goal_run fun vs hf => ⟨wants_none rfl, OpT.conv (OpT.evs (ev' := evL [(5, .int .i64 s3)]) (opT_move (v := .int .i64 s3) rfl rfl) rfl [.tmp 5] rfl ⟨rfl, trivial⟩) rfl (fun _ h => Eq.trans h rfl) (fun _ => rfl)⟩, Plan.goal_run fun vs hf => ⟨wants_none rfl, OpT.conv (OpT.evs (ev' := evL [(21, va1), (22, .int .i64 s3)]) (opT_index_hd (xs := p1b) (i := s3) (n := 1) (Hd.of_rd ra1) Try.underlying22 ti4 rfl rfl rfl (getI_in e6)) rfl [.tmp 21, .tmp 22] rfl ⟨(hf 4 (mb rfl)), (hf 5 (mb rfl)), trivial⟩) rfl (fun _ h => Eq.trans h rfl) (fun _ => rfl)⟩, Plan.goal_run fun vs hf => ⟨wants_none rfl, OpT.conv (OpT.evs (ev' := evL [(23, pt va1 (s3.toNat * 1))]) (opT_load_el (S := rBool) (xs := p1b) (a := x6) (i := s3) (k := 1) (off := 0) (f := fun (x : Bool) => x) ra1 e6 Fld.self ti4 rfl rfl rfl rfl rfl) rfl [.tmp 23] rfl ⟨(hf 6 (mb rfl)), trivial⟩) rfl (fun _ h => lds_one h) (fun _ => rfl)⟩, Plan.goal_run fun vs hf => ⟨wants_none rfl, OpT.conv (OpT.evs (ev' := evL [(20, .bool x5), (24, .bool x6)]) (opT_neb (b := x5) (c := x6) Try.underlying4 rfl rfl rfl) rfl [.tmp 20, .tmp 24] rfl ⟨(hf 3 (mb rfl)), (hf 7 (mb rfl)), trivial⟩) rfl (fun _ h => Eq.trans h rfl) (fun _ => rfl)⟩, trivial⟩
          intro vs aq29 wq29 hf haq29 hsq29
          clear haq28 hsq28
          replace haq29 := haq29.pick' (L' := [(0, va0), (1, va1), (5, .int .i64 s3), (25, .bool (x5 != x6))]) ⟨rfl, rfl, rfl, (congrArg some (show _ = _ from (hf 8 (Nat.le_of_ble_eq_true rfl)))), trivial⟩
          replace hsq29 : St I w0 wq29 [F] := hsq29
          clear hf vs
          refine nrm ?_
          rcases two (x5 != x6) with hb7 | hb7
          · replace hm := ifFe hb7 hm
            refine cnd_false (b := x5 != x6) haq29 rfl rfl hb7 ?_
            refine wp_skip ?_
            refine nrmB ?_
            refine nrm ?_
            refine wp_region_lit ?_
            refine seq_op0 haq29 hsq29 (opT_move (v := .int .i64 s3) rfl rfl) rfl rfl ?_
            rintro u aq30 wq30 hf haq30 hsq30
            obtain rfl := Eq.symm hf
            clear haq29 hsq29 aq29 wq29
            refine seq_op0 haq30 hsq30 (opT_add (m := s3) (n := 1) rfl rfl rfl) rfl rfl ?_
            rintro u aq31 wq31 hf haq31 hsq31
            obtain rfl := Eq.symm hf
            clear haq30 hsq30 aq30 wq30
            refine seq_op0 haq31 hsq31 (opT_assign (v := .int .i64 (IntKind.i64.wrap (s3 + 1))) rfl rfl) rfl rfl ?_
            rintro u aq32 wq32 hf haq32 hsq32
            obtain rfl := Eq.symm hf
            clear haq31 hsq31 aq31 wq31
            refine wpList_nil ?_
            replace haq32 := haq32.pick' (L' := [(0, va0), (1, va1), (5, .int .i64 (IntKind.i64.wrap (s3 + 1)))]) ⟨rfl, rfl, rfl, trivial⟩
            refine nrm ?_
            exact ⟨_, (Option.some.inj hm).symm, ⟨haq32.pick' ⟨rfl, rfl, rfl, trivial⟩, St.sel hsq32 1 [0] rfl rfl⟩⟩
          · replace hm := ifTe hb7 hm
            refine cnd_true (b := x5 != x6) haq29 rfl rfl hb7 ?_
            refine wp_seq ?_
            refine wp_region_lit ?_
            refine seq_op0 haq29 hsq29 (opT_assign (v := .bool false) rfl rfl) rfl rfl ?_
            rintro u aq33 wq33 hf haq33 hsq33
            obtain rfl := Eq.symm hf
            clear haq29 hsq29 aq29 wq29
            refine wpList_nil ?_
            replace haq33 := haq33.pick' (L' := [(4, .bool false)]) ⟨rfl, trivial⟩
            refine nrm ?_
            refine wp_ret ?_
            refine blkR ?_
            refine thenR ?_
            refine thenR ?_
            refine blkR ?_
            refine thenR ?_
            refine thenR ?_
            replace hm := loopRet hm hf1 hc1
            obtain rfl := Option.some.inj hm
            exact ret_1 haq33 rfl (res_tmp haq33 rfl) ⟨_, rfl, rfl, _, Hp.le.rfl, St.sel (hsq33) 1 [0] rfl rfl⟩
    · rintro aq34 wq34 ⟨s4, ho1, haq34, hsq34⟩
      replace hm := loopOut ho1 hc1
      clear ho1 hc1 hl1
      refine nrm ?_
      refine wp_seq ?_
      refine wp_region_lit ?_
      refine seq_op0 haq34 hsq34 (opT_assign (v := .bool true) rfl rfl) rfl rfl ?_
      rintro u aq35 wq35 hf haq35 hsq35
      obtain rfl := Eq.symm hf
      clear haq34 hsq34 aq34 wq34
      refine wpList_nil ?_
      replace haq35 := haq35.pick' (L' := [(4, .bool true)]) ⟨rfl, trivial⟩
      refine nrm ?_
      refine wp_ret ?_
      obtain rfl := Option.some.inj hm
      exact ret_1 haq35 rfl (res_tmp haq35 rfl) ⟨_, rfl, rfl, _, Hp.le.rfl, St.sel (hsq35) 1 [0] rfl rfl⟩
  · replace hm := ifTe hb1 hm
    refine cnd_true (b := (p0a.length : Int) != (p1b.length : Int)) haq6 rfl rfl hb1 ?_
    refine wp_seq ?_
    refine wp_region_lit ?_
    refine seq_op0 haq6 hsq6 (opT_assign (v := .bool false) rfl rfl) rfl rfl ?_
    rintro u aq36 wq36 hf haq36 hsq36
    obtain rfl := Eq.symm hf
    clear haq6 hsq6 aq6 wq6
    refine wpList_nil ?_
    replace haq36 := haq36.pick' (L' := [(4, .bool false)]) ⟨rfl, trivial⟩
    refine nrm ?_
    refine wp_ret ?_
    refine thenR ?_
    obtain rfl := Option.some.inj hm
    exact ret_1 haq36 rfl (res_tmp haq36 rfl) ⟨_, rfl, rfl, _, Hp.le.rfl, St.sel (hsq36) 1 [0] rfl rfl⟩
set_option maxHeartbeats 8000000 in
theorem c_w_eqSubscriber (p0a : Int × Int × Int) (p1b : Int × Int × Int) (r : Bool) (hm : m_w_eqSubscriber p0a p1b = some r) {I : Hp} {w0 : World} : Con Try.prog 145 #[.agg #[.int .i64 p0a.1, .int .i64 p0a.2.1, .int .i64 p0a.2.2], .agg #[.int .i64 p1b.1, .int .i64 p1b.2.1, .int .i64 p1b.2.2]] I w0 [] (fun v => v = .bool r) (fun v => []) := by
  refine con_of_wp (n := 20) [(0, .agg #[.int .i64 p0a.1, .int .i64 p0a.2.1, .int .i64 p0a.2.2]), (1, .agg #[.int .i64 p1b.1, .int .i64 p1b.2.1, .int .i64 p1b.2.2])] Try.func145 rfl rfl (Nat.le_of_ble_eq_true rfl) (args_all ⟨rfl, rfl, trivial⟩) (fun F w a ha hs => ?_) (fun v => trivial)
  unfold m_w_eqSubscriber at hm
  refine wp_seq ?_
  refine wp_region_lit ?_
  refine seq_op ha hs rfl (opT_box (u := .agg #[.int .i64 p0a.1, .int .i64 p0a.2.1, .int .i64 p0a.2.2]) (l := [.int .i64 p0a.1, .int .i64 p0a.2.1, .int .i64 p0a.2.2]) rfl rfl rfl) (List.Perm.refl _) rfl ?_
  rintro _ aq1 wq1 ⟨g1, rfl⟩ haq1 (hsq1 : St I w0 wq1 [Ch.blk g1 [.int .i64 p0a.1, .int .i64 p0a.2.1, .int .i64 p0a.2.2] 107, F])
  clear ha hs a w
  refine seq_op haq1 hsq1 rfl (opT_box (u := .agg #[.int .i64 p1b.1, .int .i64 p1b.2.1, .int .i64 p1b.2.2]) (l := [.int .i64 p1b.1, .int .i64 p1b.2.1, .int .i64 p1b.2.2]) rfl rfl rfl) (List.Perm.refl _) rfl ?_
  rintro _ aq2 wq2 ⟨g2, rfl⟩ haq2 (hsq2 : St I w0 wq2 [Ch.blk g2 [.int .i64 p1b.1, .int .i64 p1b.2.1, .int .i64 p1b.2.2] 107, Ch.blk g1 [.int .i64 p0a.1, .int .i64 p0a.2.1, .int .i64 p0a.2.2] 107, F])
  clear haq1 hsq1 aq1 wq1
  refine seq_op0 haq2 hsq2 (opT_assign (v := .bool false) rfl rfl) rfl rfl ?_
  rintro u aq3 wq3 hf haq3 hsq3
  obtain rfl := Eq.symm hf
  clear haq2 hsq2 aq2 wq2
  refine wpList_nil ?_
  replace haq3 := haq3.pick' (L' := [(2, .pointer (some ⟨g1, 0, none⟩)), (3, .pointer (some ⟨g2, 0, none⟩))]) ⟨rfl, rfl, trivial⟩
  refine nrm ?_
  refine wp_seq ?_
  refine wp_seq ?_
  refine wp_region_lit ?_
  refine seq_op0 haq3 hsq3 (opT_field_addr (g := g1) (b := 0) tf107_0 rfl rfl) rfl rfl ?_
  rintro u aq4 wq4 hf haq4 hsq4
  obtain rfl := Eq.symm hf
  clear haq3 hsq3 aq3 wq3
  refine seq_op haq4 hsq4 rfl (opT_load_blk (g := g1) (off := 0) (E := 107) (l := [.int .i64 p0a.1, .int .i64 p0a.2.1, .int .i64 p0a.2.2]) (d := [.int .i64 p0a.1]) (u := .int .i64 p0a.1) ti3 rfl rfl rfl rfl rfl rfl) (perm_front (i := 1) rfl) rfl ?_
  rintro u aq5 wq5 hf haq5 (hsq5 : St I w0 wq5 [Ch.blk g1 [.int .i64 p0a.1, .int .i64 p0a.2.1, .int .i64 p0a.2.2] 107, Ch.blk g2 [.int .i64 p1b.1, .int .i64 p1b.2.1, .int .i64 p1b.2.2] 107, F])
  obtain rfl := Eq.symm hf
  clear haq4 hsq4 aq4 wq4
  refine seq_op0 haq5 hsq5 (opT_field_addr (g := g2) (b := 0) tf107_0 rfl rfl) rfl rfl ?_
  rintro u aq6 wq6 hf haq6 hsq6
  obtain rfl := Eq.symm hf
  clear haq5 hsq5 aq5 wq5
  refine seq_op haq6 hsq6 rfl (opT_load_blk (g := g2) (off := 0) (E := 107) (l := [.int .i64 p1b.1, .int .i64 p1b.2.1, .int .i64 p1b.2.2]) (d := [.int .i64 p1b.1]) (u := .int .i64 p1b.1) ti3 rfl rfl rfl rfl rfl rfl) (perm_front (i := 1) rfl) rfl ?_
  rintro u aq7 wq7 hf haq7 (hsq7 : St I w0 wq7 [Ch.blk g2 [.int .i64 p1b.1, .int .i64 p1b.2.1, .int .i64 p1b.2.2] 107, Ch.blk g1 [.int .i64 p0a.1, .int .i64 p0a.2.1, .int .i64 p0a.2.2] 107, F])
  obtain rfl := Eq.symm hf
  clear haq6 hsq6 aq6 wq6
  refine seq_op0 haq7 hsq7 (opT_cmp (k := .i64) (m := p0a.1) (n := p1b.1) (c := p0a.1 != p1b.1) rfl rfl rfl rfl rfl) rfl rfl ?_
  rintro u aq8 wq8 hf haq8 hsq8
  obtain rfl := Eq.symm hf
  clear haq7 hsq7 aq7 wq7
  refine wpList_nil ?_
  replace haq8 := haq8.pick' (L' := [(2, .pointer (some ⟨g1, 0, none⟩)), (3, .pointer (some ⟨g2, 0, none⟩)), (9, .bool (p0a.1 != p1b.1))]) ⟨rfl, rfl, rfl, trivial⟩
  refine nrm ?_
  rcases two (p0a.1 != p1b.1) with hb1 | hb1
  · replace hm := ifFe hb1 hm
    refine cnd_false (b := p0a.1 != p1b.1) haq8 rfl rfl hb1 ?_
    refine wp_skip ?_
    refine nrm ?_
    refine wp_seq ?_
    refine wp_seq ?_
    refine wp_region_lit ?_
    refine seq_op0 haq8 hsq8 (opT_field_addr (g := g1) (b := 0) tf107_1 rfl rfl) rfl rfl ?_
    rintro u aq9 wq9 hf haq9 hsq9
    obtain rfl := Eq.symm hf
    clear haq8 hsq8 aq8 wq8
    refine seq_op haq9 hsq9 rfl (opT_load_blk (g := g1) (off := 1) (E := 107) (l := [.int .i64 p0a.1, .int .i64 p0a.2.1, .int .i64 p0a.2.2]) (d := [.int .i64 p0a.2.1]) (u := .int .i64 p0a.2.1) ti3 rfl rfl rfl rfl rfl rfl) (perm_front (i := 1) rfl) rfl ?_
    rintro u aq10 wq10 hf haq10 (hsq10 : St I w0 wq10 [Ch.blk g1 [.int .i64 p0a.1, .int .i64 p0a.2.1, .int .i64 p0a.2.2] 107, Ch.blk g2 [.int .i64 p1b.1, .int .i64 p1b.2.1, .int .i64 p1b.2.2] 107, F])
    obtain rfl := Eq.symm hf
    clear haq9 hsq9 aq9 wq9
    refine seq_op0 haq10 hsq10 (opT_field_addr (g := g2) (b := 0) tf107_1 rfl rfl) rfl rfl ?_
    rintro u aq11 wq11 hf haq11 hsq11
    obtain rfl := Eq.symm hf
    clear haq10 hsq10 aq10 wq10
    refine seq_op haq11 hsq11 rfl (opT_load_blk (g := g2) (off := 1) (E := 107) (l := [.int .i64 p1b.1, .int .i64 p1b.2.1, .int .i64 p1b.2.2]) (d := [.int .i64 p1b.2.1]) (u := .int .i64 p1b.2.1) ti3 rfl rfl rfl rfl rfl rfl) (perm_front (i := 1) rfl) rfl ?_
    rintro u aq12 wq12 hf haq12 (hsq12 : St I w0 wq12 [Ch.blk g2 [.int .i64 p1b.1, .int .i64 p1b.2.1, .int .i64 p1b.2.2] 107, Ch.blk g1 [.int .i64 p0a.1, .int .i64 p0a.2.1, .int .i64 p0a.2.2] 107, F])
    obtain rfl := Eq.symm hf
    clear haq11 hsq11 aq11 wq11
    refine seq_op0 haq12 hsq12 (opT_cmp (k := .i64) (m := p0a.2.1) (n := p1b.2.1) (c := p0a.2.1 != p1b.2.1) rfl rfl rfl rfl rfl) rfl rfl ?_
    rintro u aq13 wq13 hf haq13 hsq13
    obtain rfl := Eq.symm hf
    clear haq12 hsq12 aq12 wq12
    refine wpList_nil ?_
    replace haq13 := haq13.pick' (L' := [(2, .pointer (some ⟨g1, 0, none⟩)), (3, .pointer (some ⟨g2, 0, none⟩)), (14, .bool (p0a.2.1 != p1b.2.1))]) ⟨rfl, rfl, rfl, trivial⟩
    refine nrm ?_
    rcases two (p0a.2.1 != p1b.2.1) with hb2 | hb2
    · replace hm := ifFe hb2 hm
      refine cnd_false (b := p0a.2.1 != p1b.2.1) haq13 rfl rfl hb2 ?_
      refine wp_skip ?_
      refine nrm ?_
      refine wp_seq ?_
      refine wp_seq ?_
      refine wp_region_lit ?_
      refine seq_op0 haq13 hsq13 (opT_field_addr (g := g1) (b := 0) tf107_2 rfl rfl) rfl rfl ?_
      rintro u aq14 wq14 hf haq14 hsq14
      obtain rfl := Eq.symm hf
      clear haq13 hsq13 aq13 wq13
      refine seq_op haq14 hsq14 rfl (opT_load_blk (g := g1) (off := 2) (E := 107) (l := [.int .i64 p0a.1, .int .i64 p0a.2.1, .int .i64 p0a.2.2]) (d := [.int .i64 p0a.2.2]) (u := .int .i64 p0a.2.2) ti3 rfl rfl rfl rfl rfl rfl) (perm_front (i := 1) rfl) rfl ?_
      rintro u aq15 wq15 hf haq15 (hsq15 : St I w0 wq15 [Ch.blk g1 [.int .i64 p0a.1, .int .i64 p0a.2.1, .int .i64 p0a.2.2] 107, Ch.blk g2 [.int .i64 p1b.1, .int .i64 p1b.2.1, .int .i64 p1b.2.2] 107, F])
      obtain rfl := Eq.symm hf
      clear haq14 hsq14 aq14 wq14
      refine seq_op0 haq15 hsq15 (opT_field_addr (g := g2) (b := 0) tf107_2 rfl rfl) rfl rfl ?_
      rintro u aq16 wq16 hf haq16 hsq16
      obtain rfl := Eq.symm hf
      clear haq15 hsq15 aq15 wq15
      refine seq_op haq16 hsq16 rfl (opT_load_blk (g := g2) (off := 2) (E := 107) (l := [.int .i64 p1b.1, .int .i64 p1b.2.1, .int .i64 p1b.2.2]) (d := [.int .i64 p1b.2.2]) (u := .int .i64 p1b.2.2) ti3 rfl rfl rfl rfl rfl rfl) (perm_front (i := 1) rfl) rfl ?_
      rintro u aq17 wq17 hf haq17 (hsq17 : St I w0 wq17 [Ch.blk g2 [.int .i64 p1b.1, .int .i64 p1b.2.1, .int .i64 p1b.2.2] 107, Ch.blk g1 [.int .i64 p0a.1, .int .i64 p0a.2.1, .int .i64 p0a.2.2] 107, F])
      obtain rfl := Eq.symm hf
      clear haq16 hsq16 aq16 wq16
      refine seq_op0 haq17 hsq17 (opT_cmp (k := .i64) (m := p0a.2.2) (n := p1b.2.2) (c := p0a.2.2 != p1b.2.2) rfl rfl rfl rfl rfl) rfl rfl ?_
      rintro u aq18 wq18 hf haq18 hsq18
      obtain rfl := Eq.symm hf
      clear haq17 hsq17 aq17 wq17
      refine wpList_nil ?_
      replace haq18 := haq18.pick' (L' := [(19, .bool (p0a.2.2 != p1b.2.2))]) ⟨rfl, trivial⟩
      refine nrm ?_
      rcases two (p0a.2.2 != p1b.2.2) with hb3 | hb3
      · replace hm := ifFe hb3 hm
        refine cnd_false (b := p0a.2.2 != p1b.2.2) haq18 rfl rfl hb3 ?_
        refine wp_skip ?_
        refine nrm ?_
        refine wp_seq ?_
        refine wp_region_lit ?_
        refine seq_op0 haq18 hsq18 (opT_assign (v := .bool true) rfl rfl) rfl rfl ?_
        rintro u aq19 wq19 hf haq19 hsq19
        obtain rfl := Eq.symm hf
        clear haq18 hsq18 aq18 wq18
        refine wpList_nil ?_
        replace haq19 := haq19.pick' (L' := [(4, .bool true)]) ⟨rfl, trivial⟩
        refine nrm ?_
        refine wp_ret ?_
        obtain rfl := Option.some.inj hm
        exact ret_1 haq19 rfl (res_tmp haq19 rfl) ⟨_, rfl, rfl, _, Hp.le.rfl, St.sel (hsq19) 3 [2] rfl rfl⟩
      · replace hm := ifTe hb3 hm
        refine cnd_true (b := p0a.2.2 != p1b.2.2) haq18 rfl rfl hb3 ?_
        refine wp_seq ?_
        refine wp_region_lit ?_
        refine seq_op0 haq18 hsq18 (opT_assign (v := .bool false) rfl rfl) rfl rfl ?_
        rintro u aq20 wq20 hf haq20 hsq20
        obtain rfl := Eq.symm hf
        clear haq18 hsq18 aq18 wq18
        refine wpList_nil ?_
        replace haq20 := haq20.pick' (L' := [(4, .bool false)]) ⟨rfl, trivial⟩
        refine nrm ?_
        refine wp_ret ?_
        refine thenR ?_
        obtain rfl := Option.some.inj hm
        exact ret_1 haq20 rfl (res_tmp haq20 rfl) ⟨_, rfl, rfl, _, Hp.le.rfl, St.sel (hsq20) 3 [2] rfl rfl⟩
    · replace hm := ifTe hb2 hm
      refine cnd_true (b := p0a.2.1 != p1b.2.1) haq13 rfl rfl hb2 ?_
      refine wp_seq ?_
      refine wp_region_lit ?_
      refine seq_op0 haq13 hsq13 (opT_assign (v := .bool false) rfl rfl) rfl rfl ?_
      rintro u aq21 wq21 hf haq21 hsq21
      obtain rfl := Eq.symm hf
      clear haq13 hsq13 aq13 wq13
      refine wpList_nil ?_
      replace haq21 := haq21.pick' (L' := [(4, .bool false)]) ⟨rfl, trivial⟩
      refine nrm ?_
      refine wp_ret ?_
      refine thenR ?_
      obtain rfl := Option.some.inj hm
      exact ret_1 haq21 rfl (res_tmp haq21 rfl) ⟨_, rfl, rfl, _, Hp.le.rfl, St.sel (hsq21) 3 [2] rfl rfl⟩
  · replace hm := ifTe hb1 hm
    refine cnd_true (b := p0a.1 != p1b.1) haq8 rfl rfl hb1 ?_
    refine wp_seq ?_
    refine wp_region_lit ?_
    refine seq_op0 haq8 hsq8 (opT_assign (v := .bool false) rfl rfl) rfl rfl ?_
    rintro u aq22 wq22 hf haq22 hsq22
    obtain rfl := Eq.symm hf
    clear haq8 hsq8 aq8 wq8
    refine wpList_nil ?_
    replace haq22 := haq22.pick' (L' := [(4, .bool false)]) ⟨rfl, trivial⟩
    refine nrm ?_
    refine wp_ret ?_
    refine thenR ?_
    obtain rfl := Option.some.inj hm
    exact ret_1 haq22 rfl (res_tmp haq22 rfl) ⟨_, rfl, rfl, _, Hp.le.rfl, St.sel (hsq22) 3 [2] rfl rfl⟩
set_option maxHeartbeats 8000000 in
theorem c_w_szTokenS (p0a : List (Int × Int × Int × Int)) (p1left : Int) (r : Int) (hm : m_w_szTokenS p0a p1left = some r) {I : Hp} {w0 : World} (va0 : Value) (ra0 : (rSlice 222 (rProd rInt (rProd rInt (rProd rInt rInt)))).rd I [va0] p0a) : Con Try.prog 190 #[va0, .int .i64 p1left] I w0 [] (fun v => v = .int .i64 r) (fun v => []) := by
  refine con_of_wp (n := 12) [(0, va0), (1, .int .i64 p1left)] Try.func190 rfl rfl (Nat.le_of_ble_eq_true rfl) (args_all ⟨rfl, rfl, trivial⟩) (fun F w a ha hs => ?_) (fun v => trivial)
  unfold m_w_szTokenS at hm
  refine wp_seq ?_
  refine wp_region_lit ?_
  refine seq_op0 ha hs (opT_assign (v := .int .i64 0) rfl rfl) rfl rfl ?_
  rintro u aq1 wq1 hf haq1 hsq1
  obtain rfl := Eq.symm hf
  clear ha hs a w
  refine wpList_nil ?_
  replace haq1 := haq1.pick' (L' := [(0, va0), (1, .int .i64 p1left)]) ⟨rfl, rfl, trivial⟩
  refine nrm ?_
  refine wp_seq ?_
  refine wp_region_lit ?_
  refine seq_op0 haq1 hsq1 (opT_move (v := .int .i64 p1left) rfl rfl) rfl rfl ?_
  rintro u aq2 wq2 hf haq2 hsq2
  obtain rfl := Eq.symm hf
  clear haq1 hsq1 aq1 wq1
  refine seq_op0 haq2 hsq2 (opT_move (v := va0) rfl rfl) rfl rfl ?_
  rintro u aq3 wq3 hf haq3 hsq3
  obtain rfl := Eq.symm hf
  clear haq2 hsq2 aq2 wq2
  refine seq_op0 haq3 hsq3 (opT_len_hd (v := va0) (n := p0a.length) (Hd.of_rd ra0) Try.underlying191 rfl rfl) rfl rfl ?_
  rintro u aq4 wq4 hf haq4 hsq4
  obtain rfl := Eq.symm hf
  clear haq3 hsq3 aq3 wq3
  refine seq_op0 haq4 hsq4 (opT_sub (m := p1left) (n := (p0a.length : Int)) rfl rfl rfl) rfl rfl ?_
  rintro u aq5 wq5 hf haq5 hsq5
  obtain rfl := Eq.symm hf
  clear haq4 hsq4 aq4 wq4
  refine seq_op0 haq5 hsq5 (opT_assign (v := .int .i64 (IntKind.i64.wrap (p1left - (p0a.length : Int)))) rfl rfl) rfl rfl ?_
  rintro u aq6 wq6 hf haq6 hsq6
  obtain rfl := Eq.symm hf
  clear haq5 hsq5 aq5 wq5
  refine wpList_nil ?_
  replace haq6 := haq6.pick' (L' := [(1, .int .i64 (IntKind.i64.wrap (p1left - (p0a.length : Int))))]) ⟨rfl, trivial⟩
  refine nrm ?_
  refine wp_seq ?_
  refine wp_seq ?_
  refine wp_region_lit ?_
  refine seq_op0 haq6 hsq6 (opT_move (v := .int .i64 (IntKind.i64.wrap (p1left - (p0a.length : Int)))) rfl rfl) rfl rfl ?_
  rintro u aq7 wq7 hf haq7 hsq7
  obtain rfl := Eq.symm hf
  clear haq6 hsq6 aq6 wq6
  refine seq_op0 haq7 hsq7 (opT_cmp (k := .i64) (m := IntKind.i64.wrap (p1left - (p0a.length : Int))) (n := 0) (c := decide (IntKind.i64.wrap (p1left - (p0a.length : Int)) < 0)) rfl rfl rfl rfl rfl) rfl rfl ?_
  rintro u aq8 wq8 hf haq8 hsq8
  obtain rfl := Eq.symm hf
  clear haq7 hsq7 aq7 wq7
  refine wpList_nil ?_
  replace haq8 := haq8.pick' (L' := [(1, .int .i64 (IntKind.i64.wrap (p1left - (p0a.length : Int)))), (10, .bool (decide (IntKind.i64.wrap (p1left - (p0a.length : Int)) < 0)))]) ⟨rfl, rfl, trivial⟩
  refine nrm ?_
  rcases two (decide (IntKind.i64.wrap (p1left - (p0a.length : Int)) < 0)) with hb1 | hb1
  · replace hm := ifFe hb1 hm
    refine cnd_false (b := decide (IntKind.i64.wrap (p1left - (p0a.length : Int)) < 0)) haq8 rfl rfl hb1 ?_
    refine wp_skip ?_
    refine nrm ?_
    refine wp_seq ?_
    refine wp_region_lit ?_
    refine seq_op0 haq8 hsq8 (opT_move (v := .int .i64 (IntKind.i64.wrap (p1left - (p0a.length : Int)))) rfl rfl) rfl rfl ?_
    rintro u aq9 wq9 hf haq9 hsq9
    obtain rfl := Eq.symm hf
    clear haq8 hsq8 aq8 wq8
    refine seq_op0 haq9 hsq9 (opT_assign (v := .int .i64 (IntKind.i64.wrap (p1left - (p0a.length : Int)))) rfl rfl) rfl rfl ?_
    rintro u aq10 wq10 hf haq10 hsq10
    obtain rfl := Eq.symm hf
    clear haq9 hsq9 aq9 wq9
    refine wpList_nil ?_
    replace haq10 := haq10.pick' (L' := [(4, .int .i64 (IntKind.i64.wrap (p1left - (p0a.length : Int))))]) ⟨rfl, trivial⟩
    refine nrm ?_
    refine wp_ret ?_
    obtain rfl := Option.some.inj hm
    exact ret_1 haq10 rfl (res_tmp haq10 rfl) ⟨_, rfl, rfl, _, Hp.le.rfl, St.sel (hsq10) 1 [0] rfl rfl⟩
  · replace hm := ifTe hb1 hm
    refine cnd_true (b := decide (IntKind.i64.wrap (p1left - (p0a.length : Int)) < 0)) haq8 rfl rfl hb1 ?_
    refine wp_seq ?_
    refine wp_region_lit ?_
    refine seq_op0 haq8 hsq8 (opT_assign (v := .int .i64 (-1)) rfl rfl) rfl rfl ?_
    rintro u aq11 wq11 hf haq11 hsq11
    obtain rfl := Eq.symm hf
    clear haq8 hsq8 aq8 wq8
    refine wpList_nil ?_
    replace haq11 := haq11.pick' (L' := [(4, .int .i64 (-1))]) ⟨rfl, trivial⟩
    refine nrm ?_
    refine wp_ret ?_
    refine thenR ?_
    obtain rfl := Option.some.inj hm
    exact ret_1 haq11 rfl (res_tmp haq11 rfl) ⟨_, rfl, rfl, _, Hp.le.rfl, St.sel (hsq11) 1 [0] rfl rfl⟩
set_option maxHeartbeats 8000000 in
theorem c_w_szBoolS (p0a : List Bool) (p1left : Int) (r : Int) (hm : m_w_szBoolS p0a p1left = some r) {I : Hp} {w0 : World} (va0 : Value) (ra0 : (rSlice 4 rBool).rd I [va0] p0a) : Con Try.prog 44 #[va0, .int .i64 p1left] I w0 [] (fun v => v = .int .i64 r) (fun v => []) := by
  refine con_of_wp (n := 12) [(0, va0), (1, .int .i64 p1left)] Try.func44 rfl rfl (Nat.le_of_ble_eq_true rfl) (args_all ⟨rfl, rfl, trivial⟩) (fun F w a ha hs => ?_) (fun v => trivial)
  unfold m_w_szBoolS at hm
  refine wp_seq ?_
  refine wp_region_lit ?_
  refine seq_op0 ha hs (opT_assign (v := .int .i64 0) rfl rfl) rfl rfl ?_
  rintro u aq1 wq1 hf haq1 hsq1
  obtain rfl := Eq.symm hf
  clear ha hs a w
  refine wpList_nil ?_
  replace haq1 := haq1.pick' (L' := [(0, va0), (1, .int .i64 p1left)]) ⟨rfl, rfl, trivial⟩
  refine nrm ?_
  refine wp_seq ?_
  refine wp_region_lit ?_
  refine seq_op0 haq1 hsq1 (opT_move (v := .int .i64 p1left) rfl rfl) rfl rfl ?_
  rintro u aq2 wq2 hf haq2 hsq2
  obtain rfl := Eq.symm hf
  clear haq1 hsq1 aq1 wq1
  refine seq_op0 haq2 hsq2 (opT_move (v := va0) rfl rfl) rfl rfl ?_
  rintro u aq3 wq3 hf haq3 hsq3
  obtain rfl := Eq.symm hf
  clear haq2 hsq2 aq2 wq2
  refine seq_op0 haq3 hsq3 (opT_len_hd (v := va0) (n := p0a.length) (Hd.of_rd ra0) Try.underlying22 rfl rfl) rfl rfl ?_
  rintro u aq4 wq4 hf haq4 hsq4
  obtain rfl := Eq.symm hf
  clear haq3 hsq3 aq3 wq3
  refine seq_op0 haq4 hsq4 (opT_sub (m := p1left) (n := (p0a.length : Int)) rfl rfl rfl) rfl rfl ?_
  rintro u aq5 wq5 hf haq5 hsq5
  obtain rfl := Eq.symm hf
  clear haq4 hsq4 aq4 wq4
  refine seq_op0 haq5 hsq5 (opT_assign (v := .int .i64 (IntKind.i64.wrap (p1left - (p0a.length : Int)))) rfl rfl) rfl rfl ?_
  rintro u aq6 wq6 hf haq6 hsq6
  obtain rfl := Eq.symm hf
  clear haq5 hsq5 aq5 wq5
  refine wpList_nil ?_
  replace haq6 := haq6.pick' (L' := [(1, .int .i64 (IntKind.i64.wrap (p1left - (p0a.length : Int))))]) ⟨rfl, trivial⟩
  refine nrm ?_
  refine wp_seq ?_
  refine wp_seq ?_
  refine wp_region_lit ?_
  refine seq_op0 haq6 hsq6 (opT_move (v := .int .i64 (IntKind.i64.wrap (p1left - (p0a.length : Int)))) rfl rfl) rfl rfl ?_
  rintro u aq7 wq7 hf haq7 hsq7
  obtain rfl := Eq.symm hf
  clear haq6 hsq6 aq6 wq6
  refine seq_op0 haq7 hsq7 (opT_cmp (k := .i64) (m := IntKind.i64.wrap (p1left - (p0a.length : Int))) (n := 0) (c := decide (IntKind.i64.wrap (p1left - (p0a.length : Int)) < 0)) rfl rfl rfl rfl rfl) rfl rfl ?_
  rintro u aq8 wq8 hf haq8 hsq8
  obtain rfl := Eq.symm hf
  clear haq7 hsq7 aq7 wq7
  refine wpList_nil ?_
  replace haq8 := haq8.pick' (L' := [(1, .int .i64 (IntKind.i64.wrap (p1left - (p0a.length : Int)))), (10, .bool (decide (IntKind.i64.wrap (p1left - (p0a.length : Int)) < 0)))]) ⟨rfl, rfl, trivial⟩
  refine nrm ?_
  rcases two (decide (IntKind.i64.wrap (p1left - (p0a.length : Int)) < 0)) with hb1 | hb1
  · replace hm := ifFe hb1 hm
    refine cnd_false (b := decide (IntKind.i64.wrap (p1left - (p0a.length : Int)) < 0)) haq8 rfl rfl hb1 ?_
    refine wp_skip ?_
    refine nrm ?_
    refine wp_seq ?_
    refine wp_region_lit ?_
    refine seq_op0 haq8 hsq8 (opT_move (v := .int .i64 (IntKind.i64.wrap (p1left - (p0a.length : Int)))) rfl rfl) rfl rfl ?_
    rintro u aq9 wq9 hf haq9 hsq9
    obtain rfl := Eq.symm hf
    clear haq8 hsq8 aq8 wq8
    refine seq_op0 haq9 hsq9 (opT_assign (v := .int .i64 (IntKind.i64.wrap (p1left - (p0a.length : Int)))) rfl rfl) rfl rfl ?_
    rintro u aq10 wq10 hf haq10 hsq10
    obtain rfl := Eq.symm hf
    clear haq9 hsq9 aq9 wq9
    refine wpList_nil ?_
    replace haq10 := haq10.pick' (L' := [(4, .int .i64 (IntKind.i64.wrap (p1left - (p0a.length : Int))))]) ⟨rfl, trivial⟩
    refine nrm ?_
    refine wp_ret ?_
    obtain rfl := Option.some.inj hm
    exact ret_1 haq10 rfl (res_tmp haq10 rfl) ⟨_, rfl, rfl, _, Hp.le.rfl, St.sel (hsq10) 1 [0] rfl rfl⟩
  · replace hm := ifTe hb1 hm
    refine cnd_true (b := decide (IntKind.i64.wrap (p1left - (p0a.length : Int)) < 0)) haq8 rfl rfl hb1 ?_
    refine wp_seq ?_
    refine wp_region_lit ?_
    refine seq_op0 haq8 hsq8 (opT_assign (v := .int .i64 (-1)) rfl rfl) rfl rfl ?_
    rintro u aq11 wq11 hf haq11 hsq11
    obtain rfl := Eq.symm hf
    clear haq8 hsq8 aq8 wq8
    refine wpList_nil ?_
    replace haq11 := haq11.pick' (L' := [(4, .int .i64 (-1))]) ⟨rfl, trivial⟩
    refine nrm ?_
    refine wp_ret ?_
    refine thenR ?_
    obtain rfl := Option.some.inj hm
    exact ret_1 haq11 rfl (res_tmp haq11 rfl) ⟨_, rfl, rfl, _, Hp.le.rfl, St.sel (hsq11) 1 [0] rfl rfl⟩
end Go.Proofs.Ytcihbmdppgpmjaa.D
