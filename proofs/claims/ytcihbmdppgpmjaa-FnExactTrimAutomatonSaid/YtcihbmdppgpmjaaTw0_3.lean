/- Printed by dec.py: models of functions and the walks that show them. -/
import Derived.Test.YtcihbmdppgpmjaaTm
set_option linter.unusedVariables false
set_option linter.unusedSimpArgs false
set_option linter.unnecessarySimpa false
set_option maxRecDepth 100000
namespace Go.Proofs.Ytcihbmdppgpmjaa.D
open Go.RowKit
set_option maxHeartbeats 8000000 in
theorem c_w_eqIntS (p0a : List Int) (p1b : List Int) (r : Bool) (hm : m_w_eqIntS p0a p1b = some r) {I : Hp} {w0 : World} (va0 : Value) (va1 : Value) (ra0 : (rSlice 3 rInt).rd I [va0] p0a) (ra1 : (rSlice 3 rInt).rd I [va1] p1b) : Con Try.prog 69 #[va0, va1] I w0 [] (fun v => v = .bool r) (fun v => []) := by
  refine con_of_wp (n := 26) [(0, va0), (1, va1)] Try.func69 rfl rfl (Nat.le_of_ble_eq_true rfl) (args_all ⟨rfl, rfl, trivial⟩) (fun F w a ha hs => ?_) (fun v => trivial)
  unfold m_w_eqIntS at hm
  refine wp_seq ?_
  refine wp_region_lit ?_
  refine seq_op0 ha hs (opT_assign (v := .bool false) rfl rfl) rfl rfl ?_
  rintro u aq1 wq1 hf haq1 hsq1
  obtain rfl := Eq.symm hf
  clear ha hs a w
  refine wpList_nil ?_
  replace haq1 := haq1.pick' (L' := [(0, va0), (1, va1)]) ⟨rfl, rfl, trivial⟩
  refine nrm ?_
  refine wp_seq ?_
  refine wp_seq ?_
  refine wp_region_lit ?_
  refine seq_op0 haq1 hsq1 (opT_move (v := va0) rfl rfl) rfl rfl ?_
  rintro u aq2 wq2 hf haq2 hsq2
  obtain rfl := Eq.symm hf
  clear haq1 hsq1 aq1 wq1
  refine seq_op0 haq2 hsq2 (opT_len_hd (v := va0) (n := p0a.length) (Hd.of_rd ra0) Try.underlying34 rfl rfl) rfl rfl ?_
  rintro u aq3 wq3 hf haq3 hsq3
  obtain rfl := Eq.symm hf
  clear haq2 hsq2 aq2 wq2
  refine seq_op0 haq3 hsq3 (opT_move (v := va1) rfl rfl) rfl rfl ?_
  rintro u aq4 wq4 hf haq4 hsq4
  obtain rfl := Eq.symm hf
  clear haq3 hsq3 aq3 wq3
  refine seq_op0 haq4 hsq4 (opT_len_hd (v := va1) (n := p1b.length) (Hd.of_rd ra1) Try.underlying34 rfl rfl) rfl rfl ?_
  rintro u aq5 wq5 hf haq5 hsq5
  obtain rfl := Eq.symm hf
  clear haq4 hsq4 aq4 wq4
  refine seq_op0 haq5 hsq5 (opT_cmp (k := .i64) (m := (p0a.length : Int)) (n := (p1b.length : Int)) (c := (p0a.length : Int) != (p1b.length : Int)) rfl rfl rfl rfl rfl) rfl rfl ?_
  rintro u aq6 wq6 hf haq6 hsq6
  obtain rfl := Eq.symm hf
  clear haq5 hsq5 aq5 wq5
  refine wpList_nil ?_
  replace haq6 := haq6.pick' (L' := [(0, va0), (1, va1), (10, .bool ((p0a.length : Int) != (p1b.length : Int)))]) ⟨rfl, rfl, rfl, trivial⟩
  refine nrm ?_
  rcases two ((p0a.length : Int) != (p1b.length : Int)) with hb1 | hb1
  · replace hm := ifFe hb1 hm
    refine cnd_false (b := (p0a.length : Int) != (p1b.length : Int)) haq6 rfl rfl hb1 ?_
    refine wp_skip ?_
    refine nrm ?_
    refine wp_seq ?_
    refine wp_seq ?_
    refine wp_region_lit ?_
    refine seq_op0 haq6 hsq6 (opT_assign (v := .int .i64 0) rfl rfl) rfl rfl ?_
    rintro u aq7 wq7 hf haq7 hsq7
    obtain rfl := Eq.symm hf
    clear haq6 hsq6 aq6 wq6
    refine wpList_nil ?_
    replace haq7 := haq7.pick' (L' := [(0, va0), (1, va1), (5, .int .i64 0)]) ⟨rfl, rfl, rfl, trivial⟩
    refine nrm ?_
    obtain ⟨o1, hl1, hc1⟩ := bindL_some hm
    refine wp_cut (fun a w => ∃ s4 : Int, o1 = .brk s4 ∧ Agr 26 a [] ∧ St I w0 w [F]) ?_ ?_
    · refine wp_block (wp_loopM (R := Bool) (S := Int) (fun s3 a w => Agr 26 a [(0, va0), (1, va1), (5, .int .i64 s3)] ∧ St I w0 w [F]) hl1 ?_ ?_)
      · exact ⟨haq7.pick' ⟨rfl, rfl, rfl, trivial⟩, St.sel hsq7 1 [0] rfl rfl⟩
      · rintro s3 o2 hm hf1 aq24 wq24 ⟨haq24, hsq24⟩
        unfold m_w_eqIntS_l0 at hm
        refine wp_seq ?_
        refine wp_seq ?_
        refine wp_region_lit ?_
        refine seq_op0 haq24 hsq24 (opT_move (v := .int .i64 s3) rfl rfl) rfl rfl ?_
        rintro u aq25 wq25 hf haq25 hsq25
        obtain rfl := Eq.symm hf
        clear haq24 hsq24 aq24 wq24
        refine seq_op0 haq25 hsq25 (opT_move (v := va0) rfl rfl) rfl rfl ?_
        rintro u aq26 wq26 hf haq26 hsq26
        obtain rfl := Eq.symm hf
        clear haq25 hsq25 aq25 wq25
        refine seq_op0 haq26 hsq26 (opT_len_hd (v := va0) (n := p0a.length) (Hd.of_rd ra0) Try.underlying34 rfl rfl) rfl rfl ?_
        rintro u aq27 wq27 hf haq27 hsq27
        obtain rfl := Eq.symm hf
        clear haq26 hsq26 aq26 wq26
        refine seq_op0 haq27 hsq27 (opT_cmp (k := .i64) (m := s3) (n := (p0a.length : Int)) (c := decide (s3 < (p0a.length : Int))) rfl rfl rfl rfl rfl) rfl rfl ?_
        rintro u aq28 wq28 hf haq28 hsq28
        obtain rfl := Eq.symm hf
        clear haq27 hsq27 aq27 wq27
        refine wpList_nil ?_
        replace haq28 := haq28.pick' (L' := [(0, va0), (1, va1), (5, .int .i64 s3), (14, .bool (decide (s3 < (p0a.length : Int))))]) ⟨rfl, rfl, rfl, rfl, trivial⟩
        refine nrm ?_
        rcases two (decide (s3 < (p0a.length : Int))) with hb6 | hb6
        · replace hm := ifFe hb6 hm
          refine cnd_false (b := decide (s3 < (p0a.length : Int))) haq28 rfl rfl hb6 ?_
          refine wp_exit ?_
          refine thenX ?_
          refine thenX ?_
          refine ex_in ?_
          refine nrm ?_
          exact ⟨_, loopBrk hm hf1, ⟨haq28.pick' trivial, St.sel hsq28 1 [0] rfl rfl⟩⟩
        · replace hm := ifTe hb6 hm
          refine cnd_true (b := decide (s3 < (p0a.length : Int))) haq28 rfl rfl hb6 ?_
          refine wp_skip ?_
          refine nrm ?_
          refine wp_seq ?_
          refine wp_block ?_
          refine wp_seq ?_
          obtain ⟨x5, e5, hm⟩ := bind_some hm
          obtain ⟨x6, e6, hm⟩ := bind_some hm
          refine wp_draw (L := [(0, va0), (1, va1), (5, .int .i64 s3), (14, .bool (decide (s3 < (p0a.length : Int))))]) (C := [F]) { ops := [⟨[], [], [], [0], fun | [xo0] => xo0 = va0 | _ => True, [(0, none)]⟩, ⟨[], [], [], [1], fun | [xo1] => xo1 = .int .i64 s3 | _ => True, [(5, none)]⟩, ⟨[], [], [], [2], fun | [xo2] => xo2 = pt va0 (s3.toNat * 1) | _ => True, [(17, some 0), (18, some 1)]⟩, ⟨[], [], [], [3], fun | [xo3] => xo3 = .int .i64 x5 | _ => True, [(19, some 2)]⟩, ⟨[], [], [], [4], fun | [xo4] => xo4 = va1 | _ => True, [(1, none)]⟩, ⟨[], [], [], [5], fun | [xo5] => xo5 = .int .i64 s3 | _ => True, [(5, none)]⟩, ⟨[], [], [], [6], fun | [xo6] => xo6 = pt va1 (s3.toNat * 1) | _ => True, [(21, some 4), (22, some 5)]⟩, ⟨[], [], [], [7], fun | [xo7] => xo7 = .int .i64 x6 | _ => True, [(23, some 6)]⟩, ⟨[], [], [], [8], fun | [xo8] => xo8 = .bool (x5 != x6) | _ => True, [(20, some 3), (24, some 7)]⟩], res := [], base := [], pre := [[], [], [0, 1], [0, 1, 2], [], [], [4, 5], [4, 5, 6], [0, 1, 2, 3, 4, 5, 6, 7]], fin := [(0, none), (1, none), (5, none), (25, some 8)], left := [] } (by kernel_rfl) haq28 hsq28 (perm_sel [0] (m := 1) rfl rfl) (by kernel_rfl) (by kernel_rfl) ?_ ?_
          · exact ⟨Plan.goal_run fun vs hf => ⟨wants_none rfl, OpT.conv (OpT.evs (ev' := evL [(0, va0)]) (opT_move (v := va0) rfl rfl) rfl [.tmp 0] rfl ⟨rfl, trivial⟩) rfl (fun _ h => Eq.trans h rfl) (fun _ => rfl)⟩, Plan.goal_run fun vs hf => ⟨wants_none rfl, OpT.conv (OpT.evs (ev' := evL [(5, .int .i64 s3)]) (opT_move (v := .int .i64 s3) rfl rfl) rfl [.tmp 5] rfl ⟨rfl, trivial⟩) rfl (fun _ h => Eq.trans h rfl) (fun _ => rfl)⟩, Plan.goal_run fun vs hf => ⟨wants_none rfl, OpT.conv (OpT.evs (ev' := evL [(17, va0), (18, .int .i64 s3)]) (opT_index_hd (xs := p0a) (i := s3) (n := 1) (Hd.of_rd ra0) Try.underlying34 ti3 rfl rfl rfl (getI_in e5)) rfl [.tmp 17, .tmp 18] rfl ⟨(hf 0 (mb rfl)), (hf 1 (mb rfl)), trivial⟩) rfl (fun _ h => Eq.trans h rfl) (fun _ => rfl)⟩, Plan.goal_run fun vs hf => ⟨wants_none rfl, OpT.conv (OpT.evs (ev' := evL [(19, pt va0 (s3.toNat * 1))]) (opT_load_el (S := rInt) (xs := p0a) (a := x5) (i := s3) (k := 1) (off := 0) (f := fun (x : Int) => x) ra0 e5 Fld.self ti3 rfl rfl rfl rfl rfl) rfl [.tmp 19] rfl ⟨(hf 2 (mb rfl)), trivial⟩) rfl (fun _ h => lds_one h) (fun _ => rfl)⟩, Plan.goal_run fun vs hf => ⟨wants_none rfl, OpT.conv (OpT.evs (ev' := evL [(1, va1)]) (opT_move (v := va1) rfl rfl) rfl [.tmp 1] rfl ⟨rfl, trivial⟩) rfl (fun _ h => Eq.trans h rfl) (fun _ => rfl)⟩, Plan.goal_run fun vs hf => ⟨wants_none rfl, OpT.conv (OpT.evs (ev' := evL [(5, .int .i64 s3)]) (opT_move (v := .int .i64 s3) rfl rfl) rfl [.tmp 5] rfl ⟨rfl, trivial⟩) rfl (fun _ h => Eq.trans h rfl) (fun _ => rfl)⟩, Plan.goal_run fun vs hf => ⟨wants_none rfl, OpT.conv (OpT.evs (ev' := evL [(21, va1), (22, .int .i64 s3)]) (opT_index_hd (xs := p1b) (i := s3) (n := 1) (Hd.of_rd ra1) Try.underlying34 ti3 rfl rfl rfl (getI_in e6)) rfl [.tmp 21, .tmp 22] rfl ⟨(hf 4 (mb rfl)), (hf 5 (mb rfl)), trivial⟩) rfl (fun _ h => Eq.trans h rfl) (fun _ => rfl)⟩, Plan.goal_run fun vs hf => ⟨wants_none rfl, OpT.conv (OpT.evs (ev' := evL [(23, pt va1 (s3.toNat * 1))]) (opT_load_el (S := rInt) (xs := p1b) (a := x6) (i := s3) (k := 1) (off := 0) (f := fun (x : Int) => x) ra1 e6 Fld.self ti3 rfl rfl rfl rfl rfl) rfl [.tmp 23] rfl ⟨(hf 6 (mb rfl)), trivial⟩) rfl (fun _ h => lds_one h) (fun _ => rfl)⟩, Plan.goal_run fun vs hf => ⟨wants_none rfl, OpT.conv (OpT.evs (ev' := evL [(20, .int .i64 x5), (24, .int .i64 x6)]) (opT_cmp (k := .i64) (m := x5) (n := x6) (c := x5 != x6) rfl rfl rfl rfl rfl) rfl [.tmp 20, .tmp 24] rfl ⟨(hf 3 (mb rfl)), (hf 7 (mb rfl)), trivial⟩) rfl (fun _ h => Eq.trans h rfl) (fun _ => rfl)⟩, trivial⟩
          intro vs aq29 wq29 hf haq29 hsq29
          clear haq28 hsq28
          replace haq29 := haq29.pick' (L' := [(0, va0), (1, va1), (5, .int .i64 s3), (25, .bool (x5 != x6))]) ⟨rfl, rfl, rfl, (congrArg some (show _ = _ from (hf 8 (Nat.le_of_ble_eq_true rfl)))), trivial⟩
          replace hsq29 : St I w0 wq29 [F] := hsq29
          clear hf vs
          refine nrm ?_
          rcases two (x5 != x6) with hb7 | hb7
          · replace hm := ifFe hb7 hm
            refine cnd_false (b := x5 != x6) haq29 rfl rfl hb7 ?_
            refine wp_skip ?_
            refine nrmB ?_
            refine nrm ?_
            refine wp_region_lit ?_
            refine seq_op0 haq29 hsq29 (opT_move (v := .int .i64 s3) rfl rfl) rfl rfl ?_
            rintro u aq30 wq30 hf haq30 hsq30
            obtain rfl := Eq.symm hf
            clear haq29 hsq29 aq29 wq29
            refine seq_op0 haq30 hsq30 (opT_add (m := s3) (n := 1) rfl rfl rfl) rfl rfl ?_
            rintro u aq31 wq31 hf haq31 hsq31
            obtain rfl := Eq.symm hf
            clear haq30 hsq30 aq30 wq30
            refine seq_op0 haq31 hsq31 (opT_assign (v := .int .i64 (IntKind.i64.wrap (s3 + 1))) rfl rfl) rfl rfl ?_
            rintro u aq32 wq32 hf haq32 hsq32
            obtain rfl := Eq.symm hf
            clear haq31 hsq31 aq31 wq31
            refine wpList_nil ?_
            replace haq32 := haq32.pick' (L' := [(0, va0), (1, va1), (5, .int .i64 (IntKind.i64.wrap (s3 + 1)))]) ⟨rfl, rfl, rfl, trivial⟩
            refine nrm ?_
            exact ⟨_, (Option.some.inj hm).symm, ⟨haq32.pick' ⟨rfl, rfl, rfl, trivial⟩, St.sel hsq32 1 [0] rfl rfl⟩⟩
          · replace hm := ifTe hb7 hm
            refine cnd_true (b := x5 != x6) haq29 rfl rfl hb7 ?_
            refine wp_seq ?_
            refine wp_region_lit ?_
            refine seq_op0 haq29 hsq29 (opT_assign (v := .bool false) rfl rfl) rfl rfl ?_
            rintro u aq33 wq33 hf haq33 hsq33
            obtain rfl := Eq.symm hf
            clear haq29 hsq29 aq29 wq29
            refine wpList_nil ?_
            replace haq33 := haq33.pick' (L' := [(4, .bool false)]) ⟨rfl, trivial⟩
            refine nrm ?_
            refine wp_ret ?_
            refine blkR ?_
            refine thenR ?_
            refine thenR ?_
            refine blkR ?_
            refine thenR ?_
            refine thenR ?_
            replace hm := loopRet hm hf1 hc1
            obtain rfl := Option.some.inj hm
            exact ret_1 haq33 rfl (res_tmp haq33 rfl) ⟨_, rfl, rfl, _, Hp.le.rfl, St.sel (hsq33) 1 [0] rfl rfl⟩
    · rintro aq34 wq34 ⟨s4, ho1, haq34, hsq34⟩
      replace hm := loopOut ho1 hc1
      clear ho1 hc1 hl1
      refine nrm ?_
      refine wp_seq ?_
      refine wp_region_lit ?_
      refine seq_op0 haq34 hsq34 (opT_assign (v := .bool true) rfl rfl) rfl rfl ?_
      rintro u aq35 wq35 hf haq35 hsq35
      obtain rfl := Eq.symm hf
      clear haq34 hsq34 aq34 wq34
      refine wpList_nil ?_
      replace haq35 := haq35.pick' (L' := [(4, .bool true)]) ⟨rfl, trivial⟩
      refine nrm ?_
      refine wp_ret ?_
      obtain rfl := Option.some.inj hm
      exact ret_1 haq35 rfl (res_tmp haq35 rfl) ⟨_, rfl, rfl, _, Hp.le.rfl, St.sel (hsq35) 1 [0] rfl rfl⟩
  · replace hm := ifTe hb1 hm
    refine cnd_true (b := (p0a.length : Int) != (p1b.length : Int)) haq6 rfl rfl hb1 ?_
    refine wp_seq ?_
    refine wp_region_lit ?_
    refine seq_op0 haq6 hsq6 (opT_assign (v := .bool false) rfl rfl) rfl rfl ?_
    rintro u aq36 wq36 hf haq36 hsq36
    obtain rfl := Eq.symm hf
    clear haq6 hsq6 aq6 wq6
    refine wpList_nil ?_
    replace haq36 := haq36.pick' (L' := [(4, .bool false)]) ⟨rfl, trivial⟩
    refine nrm ?_
    refine wp_ret ?_
    refine thenR ?_
    obtain rfl := Option.some.inj hm
    exact ret_1 haq36 rfl (res_tmp haq36 rfl) ⟨_, rfl, rfl, _, Hp.le.rfl, St.sel (hsq36) 1 [0] rfl rfl⟩
set_option maxHeartbeats 8000000 in
theorem c_w_eqBoolS (p0a : List Bool) (p1b : List Bool) (r : Bool) (hm : m_w_eqBoolS p0a p1b = some r) {I : Hp} {w0 : World} (va0 : Value) (va1 : Value) (ra0 : (rSlice 4 rBool).rd I [va0] p0a) (ra1 : (rSlice 4 rBool).rd I [va1] p1b) : Con Try.prog 53 #[va0, va1] I w0 [] (fun v => v = .bool r) (fun v => []) := by
  refine con_of_wp (n := 26) [(0, va0), (1, va1)] Try.func53 rfl rfl (Nat.le_of_ble_eq_true rfl) (args_all ⟨rfl, rfl, trivial⟩) (fun F w a ha hs => ?_) (fun v => trivial)
  unfold m_w_eqBoolS at hm
  refine wp_seq ?_
  refine wp_region_lit ?_
  refine seq_op0 ha hs (opT_assign (v := .bool false) rfl rfl) rfl rfl ?_
  rintro u aq1 wq1 hf haq1 hsq1
  obtain rfl := Eq.symm hf
  clear ha hs a w
  refine wpList_nil ?_
  replace haq1 := haq1.pick' (L' := [(0, va0), (1, va1)]) ⟨rfl, rfl, trivial⟩
  refine nrm ?_
  refine wp_seq ?_
  refine wp_seq ?_
  refine wp_region_lit ?_
  refine seq_op0 haq1 hsq1 (opT_move (v := va0) rfl rfl) rfl rfl ?_
  rintro u aq2 wq2 hf haq2 hsq2
  obtain rfl := Eq.symm hf
  clear haq1 hsq1 aq1 wq1
  refine seq_op0 haq2 hsq2 (opT_len_hd (v := va0) (n := p0a.length) (Hd.of_rd ra0) Try.underlying22 rfl rfl) rfl rfl ?_
  rintro u aq3 wq3 hf haq3 hsq3
  obtain rfl := Eq.symm hf
  clear haq2 hsq2 aq2 wq2
  refine seq_op0 haq3 hsq3 (opT_move (v := va1) rfl rfl) rfl rfl ?_
  rintro u aq4 wq4 hf haq4 hsq4
  obtain rfl := Eq.symm hf
  clear haq3 hsq3 aq3 wq3
  refine seq_op0 haq4 hsq4 (opT_len_hd (v := va1) (n := p1b.length) (Hd.of_rd ra1) Try.underlying22 rfl rfl) rfl rfl ?_
  rintro u aq5 wq5 hf haq5 hsq5
  obtain rfl := Eq.symm hf
  clear haq4 hsq4 aq4 wq4
  refine seq_op0 haq5 hsq5 (opT_cmp (k := .i64) (m := (p0a.length : Int)) (n := (p1b.length : Int)) (c := (p0a.length : Int) != (p1b.length : Int)) rfl rfl rfl rfl rfl) rfl rfl ?_
  rintro u aq6 wq6 hf haq6 hsq6
  obtain rfl := Eq.symm hf
  clear haq5 hsq5 aq5 wq5
  refine wpList_nil ?_
  replace haq6 := haq6.pick' (L' := [(0, va0), (1, va1), (10, .bool ((p0a.length : Int) != (p1b.length : Int)))]) ⟨rfl, rfl, rfl, trivial⟩
  refine nrm ?_
  rcases two ((p0a.length : Int) != (p1b.length : Int)) with hb1 | hb1
  · replace hm := ifFe hb1 hm
    refine cnd_false (b := (p0a.length : Int) != (p1b.length : Int)) haq6 rfl rfl hb1 ?_
    refine wp_skip ?_
    refine nrm ?_
    refine wp_seq ?_
    refine wp_seq ?_
    refine wp_region_lit ?_
    refine seq_op0 haq6 hsq6 (opT_assign (v := .int .i64 0) rfl rfl) rfl rfl ?_
    rintro u aq7 wq7 hf haq7 hsq7
    obtain rfl := Eq.symm hf
    clear haq6 hsq6 aq6 wq6
    refine wpList_nil ?_
    replace haq7 := haq7.pick' (L' := [(0, va0), (1, va1), (5, .int .i64 0)]) ⟨rfl, rfl, rfl, trivial⟩
    refine nrm ?_
    obtain ⟨o1, hl1, hc1⟩ := bindL_some hm
    refine wp_cut (fun a w => ∃ s4 : Int, o1 = .brk s4 ∧ Agr 26 a [] ∧ St I w0 w [F]) ?_ ?_
    · refine wp_block (wp_loopM (R := Bool) (S := Int) (fun s3 a w => Agr 26 a [(0, va0), (1, va1), (5, .int .i64 s3)] ∧ St I w0 w [F]) hl1 ?_ ?_)
      · exact ⟨haq7.pick' ⟨rfl, rfl, rfl, trivial⟩, St.sel hsq7 1 [0] rfl rfl⟩
      · rintro s3 o2 hm hf1 aq24 wq24 ⟨haq24, hsq24⟩
        unfold m_w_eqBoolS_l0 at hm
        refine wp_seq ?_
        refine wp_seq ?_
        refine wp_region_lit ?_
        refine seq_op0 haq24 hsq24 (opT_move (v := .int .i64 s3) rfl rfl) rfl rfl ?_
        rintro u aq25 wq25 hf haq25 hsq25
        obtain rfl := Eq.symm hf
        clear haq24 hsq24 aq24 wq24
        refine seq_op0 haq25 hsq25 (opT_move (v := va0) rfl rfl) rfl rfl ?_
        rintro u aq26 wq26 hf haq26 hsq26
        obtain rfl := Eq.symm hf
        clear haq25 hsq25 aq25 wq25
        refine seq_op0 haq26 hsq26 (opT_len_hd (v := va0) (n := p0a.length) (Hd.of_rd ra0) Try.underlying22 rfl rfl) rfl rfl ?_
        rintro u aq27 wq27 hf haq27 hsq27
        obtain rfl := Eq.symm hf
        clear haq26 hsq26 aq26 wq26
        refine seq_op0 haq27 hsq27 (opT_cmp (k := .i64) (m := s3) (n := (p0a.length : Int)) (c := decide (s3 < (p0a.length : Int))) rfl rfl rfl rfl rfl) rfl rfl ?_
        rintro u aq28 wq28 hf haq28 hsq28
        obtain rfl := Eq.symm hf
        clear haq27 hsq27 aq27 wq27
        refine wpList_nil ?_
        replace haq28 := haq28.pick' (L' := [(0, va0), (1, va1), (5, .int .i64 s3), (14, .bool (decide (s3 < (p0a.length : Int))))]) ⟨rfl, rfl, rfl, rfl, trivial⟩
        refine nrm ?_
        rcases two (decide (s3 < (p0a.length : Int))) with hb6 | hb6
        · replace hm := ifFe hb6 hm
          refine cnd_false (b := decide (s3 < (p0a.length : Int))) haq28 rfl rfl hb6 ?_
          refine wp_exit ?_
          refine thenX ?_
          refine thenX ?_
          refine ex_in ?_
          refine nrm ?_
          exact ⟨_, loopBrk hm hf1, ⟨haq28.pick' trivial, St.sel hsq28 1 [0] rfl rfl⟩⟩
        · replace hm := ifTe hb6 hm
          refine cnd_true (b := decide (s3 < (p0a.length : Int))) haq28 rfl rfl hb6 ?_
          refine wp_skip ?_
          refine nrm ?_
          refine wp_seq ?_
          refine wp_block ?_
          refine wp_seq ?_
          obtain ⟨x5, e5, hm⟩ := bind_some hm
          obtain ⟨x6, e6, hm⟩ := bind_some hm
          refine wp_draw (L := [(0, va0), (1, va1), (5, .int .i64 s3), (14, .bool (decide (s3 < (p0a.length : Int))))]) (C := [F]) { ops := [⟨[], [], [], [0], fun | [xo0] => xo0 = va0 | _ => True, [(0, none)]⟩, ⟨[], [], [], [1], fun | [xo1] => xo1 = .int .i64 s3 | _ => True, [(5, none)]⟩, ⟨[], [], [], [2], fun | [xo2] => xo2 = pt va0 (s3.toNat * 1) | _ => True, [(17, some 0), (18, some 1)]⟩, ⟨[], [], [], [3], fun | [xo3] => xo3 = .bool x5 | _ => True, [(19, some 2)]⟩, ⟨[], [], [], [4], fun | [xo4] => xo4 = va1 | _ => True, [(1, none)]⟩, ⟨[], [], [], [5], fun | [xo5] => xo5 = .int .i64 s3 | _ => True, [(5, none)]⟩, ⟨[], [], [], [6], fun | [xo6] => xo6 = pt va1 (s3.toNat * 1) | _ => True, [(21, some 4), (22, some 5)]⟩, ⟨[], [], [], [7], fun | [xo7] => xo7 = .bool x6 | _ => True, [(23, some 6)]⟩, ⟨[], [], [], [8], fun | [xo8] => xo8 = .bool (x5 != x6) | _ => True, [(20, some 3), (24, some 7)]⟩], res := [], base := [], pre := [[], [], [0, 1], [0, 1, 2], [], [], [4, 5], [4, 5, 6], [0, 1, 2, 3, 4, 5, 6, 7]], fin := [(0, none), (1, none), (5, none), (25, some 8)], left := [] } (by kernel_rfl) haq28 hsq28 (perm_sel [0] (m := 1) rfl rfl) (by kernel_rfl) (by kernel_rfl) ?_ ?_
          · exact ⟨Plan.goal_run fun vs hf => ⟨wants_none rfl, OpT.conv (OpT.evs (ev' := evL [(0, va0)]) (opT_move (v := va0) rfl rfl) rfl [.tmp 0] rfl ⟨rfl, trivial⟩) rfl (fun _ h => Eq.trans h rfl) (fun _ => rfl)⟩, Plan.goal_run fun vs hf => ⟨wants_none rfl, OpT.conv (OpT.evs (ev' := evL [(5, .int .i64 s3)]) (opT_move (v := .int .i64 s3) rfl rfl) rfl [.tmp 5] rfl ⟨rfl, trivial⟩) rfl (fun _ h => Eq.trans h rfl) (fun _ => rfl)⟩, Plan.goal_run fun vs hf => ⟨wants_none rfl, OpT.conv (OpT.evs (ev' := evL [(17, va0), (18, .int .i64 s3)]) (opT_index_hd (xs := p0a) (i := s3) (n := 1) (Hd.of_rd ra0) Try.underlying22 ti4 rfl rfl rfl (getI_in e5)) rfl [.tmp 17, .tmp 18] rfl ⟨(hf 0 (mb rfl)), (hf 1 (mb rfl)), trivial⟩) rfl (fun _ h => Eq.trans h rfl) (fun _ => rfl)⟩, Plan.goal_run fun vs hf => ⟨wants_none rfl, OpT.conv (OpT.evs (ev' := evL [(19, pt va0 (s3.toNat * 1))]) (opT_load_el (S := rBool) (xs := p0a) (a := x5) (i := s3) (k := 1) (off := 0) (f := fun (x : Bool) => x) ra0 e5 Fld.self ti4 rfl rfl rfl rfl rfl) rfl [.tmp 19] rfl ⟨(hf 2 (mb rfl)), trivial⟩) rfl (fun _ h => lds_one h) (fun _ => rfl)⟩, Plan.goal_run fun vs hf => ⟨wants_none rfl, OpT.conv (OpT.evs (ev' := evL [(1, va1)]) (opT_move (v := va1) rfl rfl) rfl [.tmp 1] rfl ⟨rfl, trivial⟩) rfl (fun _ h => Eq.trans h rfl) (fun _ => rfl)⟩, Plan.goal_run fun vs hf => ⟨wants_none rfl, OpT.conv (OpT.evs (ev' := evL [(5, .int .i64 s3)]) (opT_move (v := .int .i64 s3) rfl rfl) rfl [.tmp 5] rfl ⟨rfl, trivial⟩) rfl (fun _ h => Eq.trans h rfl) (fun _ => rfl)⟩, Plan.goal_run fun vs hf => ⟨wants_none rfl, OpT.conv (OpT.evs (ev' := evL [(21, va1), (22, .int .i64 s3)]) (opT_index_hd (xs := p1b) (i := s3) (n := 1) (Hd.of_rd ra1) Try.underlying22 ti4 rfl rfl rfl (getI_in e6)) rfl [.tmp 21, .tmp 22] rfl ⟨(hf 4 (mb rfl)), (hf 5 (mb rfl)), trivial⟩) rfl (fun _ h => Eq.trans h rfl) (fun _ => rfl)⟩, Plan.goal_run fun vs hf => ⟨wants_none rfl, OpT.conv (OpT.evs (ev' := evL [(23, pt va1 (s3.toNat * 1))]) (opT_load_el (S := rBool) (xs := p1b) (a := x6) (i := s3) (k := 1) (off := 0) (f := fun (x : Bool) => x) ra1 e6 Fld.self ti4 rfl rfl rfl rfl rfl) rfl [.tmp 23] rfl ⟨(hf 6 (mb rfl)), trivial⟩) rfl (fun _ h => lds_one h) (fun _ => rfl)⟩, Plan.goal_run fun vs hf => ⟨wants_none rfl, OpT.conv (OpT.evs (ev' := evL [(20, .bool x5), (24, .bool x6)]) (opT_neb (b := x5) (c := x6) Try.underlying4 rfl rfl rfl) rfl [.tmp 20, .tmp 24] rfl ⟨(hf 3 (mb rfl)), (hf 7 (mb rfl)), trivial⟩) rfl (fun _ h => Eq.trans h rfl) (fun _ => rfl)⟩, trivial⟩
          intro vs aq29 wq29 hf haq29 hsq29
          clear haq28 hsq28
          replace haq29 := haq29.pick' (L' := [(0, va0), (1, va1), (5, .int .i64 s3), (25, .bool (x5 != x6))]) ⟨rfl, rfl, rfl, (congrArg some (show _ = _ from (hf 8 (Nat.le_of_ble_eq_true rfl)))), trivial⟩
          replace hsq29 : St I w0 wq29 [F] := hsq29
          clear hf vs
          refine nrm ?_
          rcases two (x5 != x6) with hb7 | hb7
          · replace hm := ifFe hb7 hm
            refine cnd_false (b := x5 != x6) haq29 rfl rfl hb7 ?_
            refine wp_skip ?_
            refine nrmB ?_
            refine nrm ?_
            refine wp_region_lit ?_
            refine seq_op0 haq29 hsq29 (opT_move (v := .int .i64 s3) rfl rfl) rfl rfl ?_
            rintro u aq30 wq30 hf haq30 hsq30
            obtain rfl := Eq.symm hf
            clear haq29 hsq29 aq29 wq29
            refine seq_op0 haq30 hsq30 (opT_add (m := s3) (n := 1) rfl rfl rfl) rfl rfl ?_
            rintro u aq31 wq31 hf haq31 hsq31
            obtain rfl := Eq.symm hf
            clear haq30 hsq30 aq30 wq30
            refine seq_op0 haq31 hsq31 (opT_assign (v := .int .i64 (IntKind.i64.wrap (s3 + 1))) rfl rfl) rfl rfl ?_
            rintro u aq32 wq32 hf haq32 hsq32
            obtain rfl := Eq.symm hf
            clear haq31 hsq31 aq31 wq31
            refine wpList_nil ?_
            replace haq32 := haq32.pick' (L' := [(0, va0), (1, va1), (5, .int .i64 (IntKind.i64.wrap (s3 + 1)))]) ⟨rfl, rfl, rfl, trivial⟩
            refine nrm ?_
            exact ⟨_, (Option.some.inj hm).symm, ⟨haq32.pick' ⟨rfl, rfl, rfl, trivial⟩, St.sel hsq32 1 [0] rfl rfl⟩⟩
          · replace hm := ifTe hb7 hm
            refine cnd_true (b := x5 != x6) haq29 rfl rfl hb7 ?_
            refine wp_seq ?_
            refine wp_region_lit ?_
            refine seq_op0 haq29 hsq29 (opT_assign (v := .bool false) rfl rfl) rfl rfl ?_
            rintro u aq33 wq33 hf haq33 hsq33
            obtain rfl := Eq.symm hf
            clear haq29 hsq29 aq29 wq29
            refine wpList_nil ?_
            replace haq33 := haq33.pick' (L' := [(4, .bool false)]) ⟨rfl, trivial⟩
            refine nrm ?_
            refine wp_ret ?_
            refine blkR ?_
            refine thenR ?_
            refine thenR ?_
            refine blkR ?_
            refine thenR ?_
            refine thenR ?_
            replace hm := loopRet hm hf1 hc1
            obtain rfl := Option.some.inj hm
            exact ret_1 haq33 rfl (res_tmp haq33 rfl) ⟨_, rfl, rfl, _, Hp.le.rfl, St.sel (hsq33) 1 [0] rfl rfl⟩
    · rintro aq34 wq34 ⟨s4, ho1, haq34, hsq34⟩
      replace hm := loopOut ho1 hc1
      clear ho1 hc1 hl1
      refine nrm ?_
      refine wp_seq ?_
      refine wp_region_lit ?_
      refine seq_op0 haq34 hsq34 (opT_assign (v := .bool true) rfl rfl) rfl rfl ?_
      rintro u aq35 wq35 hf haq35 hsq35
      obtain rfl := Eq.symm hf
      clear haq34 hsq34 aq34 wq34
      refine wpList_nil ?_
      replace haq35 := haq35.pick' (L' := [(4, .bool true)]) ⟨rfl, trivial⟩
      refine nrm ?_
      refine wp_ret ?_
      obtain rfl := Option.some.inj hm
      exact ret_1 haq35 rfl (res_tmp haq35 rfl) ⟨_, rfl, rfl, _, Hp.le.rfl, St.sel (hsq35) 1 [0] rfl rfl⟩
  · replace hm := ifTe hb1 hm
    refine cnd_true (b := (p0a.length : Int) != (p1b.length : Int)) haq6 rfl rfl hb1 ?_
    refine wp_seq ?_
    refine wp_region_lit ?_
    refine seq_op0 haq6 hsq6 (opT_assign (v := .bool false) rfl rfl) rfl rfl ?_
    rintro u aq36 wq36 hf haq36 hsq36
    obtain rfl := Eq.symm hf
    clear haq6 hsq6 aq6 wq6
    refine wpList_nil ?_
    replace haq36 := haq36.pick' (L' := [(4, .bool false)]) ⟨rfl, trivial⟩
    refine nrm ?_
    refine wp_ret ?_
    refine thenR ?_
    obtain rfl := Option.some.inj hm
    exact ret_1 haq36 rfl (res_tmp haq36 rfl) ⟨_, rfl, rfl, _, Hp.le.rfl, St.sel (hsq36) 1 [0] rfl rfl⟩
set_option maxHeartbeats 8000000 in
theorem c_s_l11Nothing (r : Int × (List Bool) × (List (List Int))) (hm : m_s_l11Nothing = some r) {I : Hp} {w0 : World} : Con Try.prog 93 #[] I w0 [] (fun v => ∃ h0 h1 : Value, v = .agg #[.int .i64 r.1, h0, h1]) (fun v => [Ch.own (rSlice 4 rBool) [vg v [1]] r.2.1, Ch.own (rSlice 34 (rSlice 3 rInt)) [vg v [2]] r.2.2]) := by
  refine con_of_wp (n := 15) [] Try.func93 rfl rfl (Nat.le_of_ble_eq_true rfl) (args_all trivial) (fun F w a ha hs => ?_) (fun v => ⟨dp_own (dp_slice dp_bool), dp_own (dp_slice (dp_slice dp_int)), trivial⟩)
  unfold m_s_l11Nothing at hm
  refine wp_seq ?_
  refine wp_region_lit ?_
  refine seq_op ha hs rfl (opT_alloc (l := [.int .i64 0, .slice none 0 0, .slice none 0 0]) tz27 rfl rfl) (List.Perm.refl _) rfl ?_
  rintro _ aq1 wq1 ⟨g1, rfl⟩ haq1 (hsq1 : St I w0 wq1 [Ch.blk g1 [.int .i64 0, .slice none 0 0, .slice none 0 0] 27, F])
  clear ha hs a w
  refine wpList_nil ?_
  replace haq1 := haq1.pick' (L' := [(0, .pointer (some ⟨g1, 0, none⟩))]) ⟨rfl, trivial⟩
  refine nrm ?_
  refine wp_seq ?_
  refine wp_region_lit ?_
  refine seq_op haq1 hsq1 rfl (opT_lit0 (E := 3) (R := rInt) Try.underlying34 ti3 rfl) (List.Perm.refl _) rfl ?_
  rintro v1 aq2 wq2 - haq2 (hsq2 : St I w0 wq2 [Ch.own (rSlice 3 rInt) [v1] ([] : List Int), Ch.blk g1 [.int .i64 0, .slice none 0 0, .slice none 0 0] 27, F])
  clear haq1 hsq1 aq1 wq1
  refine seq_op0 haq2 hsq2 (opT_assign (v := v1) rfl rfl) rfl rfl ?_
  rintro u aq3 wq3 hf haq3 hsq3
  obtain rfl := Eq.symm hf
  clear haq2 hsq2 aq2 wq2
  refine wpList_nil ?_
  replace haq3 := haq3.pick' (L' := [(0, .pointer (some ⟨g1, 0, none⟩)), (1, v1)]) ⟨rfl, rfl, trivial⟩
  refine nrm ?_
  refine wp_seq ?_
  refine wp_seq ?_
  refine wp_region_lit ?_
  refine seq_op0 haq3 hsq3 (opT_assign (v := .int .i64 0) rfl rfl) rfl rfl ?_
  rintro u aq4 wq4 hf haq4 hsq4
  obtain rfl := Eq.symm hf
  clear haq3 hsq3 aq3 wq3
  refine wpList_nil ?_
  replace haq4 := haq4.pick' (L' := [(0, .pointer (some ⟨g1, 0, none⟩)), (1, v1), (2, .int .i64 0)]) ⟨rfl, rfl, rfl, trivial⟩
  refine nrm ?_
  obtain ⟨o1, hl1, hc1⟩ := bindL_some hm
  refine wp_cut (fun a w => ∃ s4 : (List Int) × Int, o1 = .brk s4 ∧ ∃ v7 : Value, Agr 15 a [(0, .pointer (some ⟨g1, 0, none⟩)), (1, v7)] ∧ St I w0 w [Ch.own (rSlice 3 rInt) [v7] s4.1, Ch.blk g1 [.int .i64 0, .slice none 0 0, .slice none 0 0] 27, F]) ?_ ?_
  · refine wp_block (wp_loopM (R := Int × (List Bool) × (List (List Int))) (S := (List Int) × Int) (fun s3 a w => ∃ v8 : Value, Agr 15 a [(0, .pointer (some ⟨g1, 0, none⟩)), (1, v8), (2, .int .i64 s3.2)] ∧ St I w0 w [Ch.own (rSlice 3 rInt) [v8] s3.1, Ch.blk g1 [.int .i64 0, .slice none 0 0, .slice none 0 0] 27, F]) hl1 ?_ ?_)
    · exact ⟨v1, haq4.pick' ⟨rfl, rfl, rfl, trivial⟩, St.sel hsq4 3 [0, 1, 2] rfl rfl⟩
    · rintro s3 o2 hm hf1 aq23 wq23 ⟨v8, haq23, hsq23⟩
      unfold m_s_l11Nothing_l0 at hm
      refine wp_seq ?_
      refine wp_seq ?_
      refine wp_region_lit ?_
      refine seq_op0 haq23 hsq23 (opT_move (v := .int .i64 s3.2) rfl rfl) rfl rfl ?_
      rintro u aq24 wq24 hf haq24 hsq24
      obtain rfl := Eq.symm hf
      clear haq23 hsq23 aq23 wq23
      refine seq_op0 haq24 hsq24 (opT_cmp (k := .i64) (m := s3.2) (n := 9) (c := decide (s3.2 < 9)) rfl rfl rfl rfl rfl) rfl rfl ?_
      rintro u aq25 wq25 hf haq25 hsq25
      obtain rfl := Eq.symm hf
      clear haq24 hsq24 aq24 wq24
      refine wpList_nil ?_
      replace haq25 := haq25.pick' (L' := [(0, .pointer (some ⟨g1, 0, none⟩)), (1, v8), (2, .int .i64 s3.2), (5, .bool (decide (s3.2 < 9)))]) ⟨rfl, rfl, rfl, rfl, trivial⟩
      refine nrm ?_
      rcases two (decide (s3.2 < 9)) with hb3 | hb3
      · replace hm := ifFe hb3 hm
        refine cnd_false (b := decide (s3.2 < 9)) haq25 rfl rfl hb3 ?_
        refine wp_exit ?_
        refine thenX ?_
        refine thenX ?_
        refine ex_in ?_
        refine nrm ?_
        exact ⟨_, loopBrk hm hf1, ⟨v8, haq25.pick' ⟨rfl, rfl, trivial⟩, St.sel hsq25 3 [0, 1, 2] rfl rfl⟩⟩
      · replace hm := ifTe hb3 hm
        refine cnd_true (b := decide (s3.2 < 9)) haq25 rfl rfl hb3 ?_
        refine wp_skip ?_
        refine nrm ?_
        refine wp_seq ?_
        refine wp_block ?_
        refine wp_region_lit ?_
        refine seq_op0 haq25 hsq25 (opT_move (v := v8) rfl rfl) rfl rfl ?_
        rintro u aq26 wq26 hf haq26 hsq26
        obtain rfl := Eq.symm hf
        clear haq25 hsq25 aq25 wq25
        refine seq_op haq26 hsq26 rfl (opT_lit_cpy (E := 3) (R := rInt) (S := rInt) [(.int .i64 (-1), [.int .i64 (-1)])] [-1] cpy_int (rd_all ⟨rfl, trivial⟩) Try.underlying34 tz3 (by decide) rfl (by decide) (by decide) rfl rfl rfl rfl (us_all ⟨⟨rfl, rfl⟩, trivial⟩)) (List.Perm.refl _) rfl ?_
        rintro v9 aq27 wq27 - haq27 (hsq27 : St I w0 wq27 [Ch.own (rSlice 3 rInt) [v9] ([-1]), Ch.own (rSlice 3 rInt) [v8] s3.1, Ch.blk g1 [.int .i64 0, .slice none 0 0, .slice none 0 0] 27, F])
        clear haq26 hsq26 aq26 wq26
        obtain ⟨z3, e3, hm⟩ := bind_some hm
        refine seq_op haq27 hsq27 rfl (opT_app (E := 3) (R := rInt) (s := v8) (u := v9) e3 Try.underlying34 tz3 rfl (by decide) rfl (by decide) rfl rfl rfl) (perm_sel [1, 0, 2, 3] (m := 4) rfl rfl) rfl ?_
        rintro v10 aq28 wq28 - haq28 (hsq28 : St I w0 wq28 [Ch.own (rSlice 3 rInt) [v10] z3, Ch.blk g1 [.int .i64 0, .slice none 0 0, .slice none 0 0] 27, F])
        clear haq27 hsq27 aq27 wq27
        refine seq_op0 haq28 hsq28 (opT_assign (v := v10) rfl rfl) rfl rfl ?_
        rintro u aq29 wq29 hf haq29 hsq29
        obtain rfl := Eq.symm hf
        clear haq28 hsq28 aq28 wq28
        refine wpList_nil ?_
        replace haq29 := haq29.pick' (L' := [(0, .pointer (some ⟨g1, 0, none⟩)), (1, v10), (2, .int .i64 s3.2)]) ⟨rfl, rfl, rfl, trivial⟩
        refine nrmB ?_
        refine nrm ?_
        refine wp_region_lit ?_
        refine seq_op0 haq29 hsq29 (opT_move (v := .int .i64 s3.2) rfl rfl) rfl rfl ?_
        rintro u aq30 wq30 hf haq30 hsq30
        obtain rfl := Eq.symm hf
        clear haq29 hsq29 aq29 wq29
        refine seq_op0 haq30 hsq30 (opT_add (m := s3.2) (n := 1) rfl rfl rfl) rfl rfl ?_
        rintro u aq31 wq31 hf haq31 hsq31
        obtain rfl := Eq.symm hf
        clear haq30 hsq30 aq30 wq30
        refine seq_op0 haq31 hsq31 (opT_assign (v := .int .i64 (IntKind.i64.wrap (s3.2 + 1))) rfl rfl) rfl rfl ?_
        rintro u aq32 wq32 hf haq32 hsq32
        obtain rfl := Eq.symm hf
        clear haq31 hsq31 aq31 wq31
        refine wpList_nil ?_
        replace haq32 := haq32.pick' (L' := [(0, .pointer (some ⟨g1, 0, none⟩)), (1, v10), (2, .int .i64 (IntKind.i64.wrap (s3.2 + 1)))]) ⟨rfl, rfl, rfl, trivial⟩
        refine nrm ?_
        exact ⟨_, (Option.some.inj hm).symm, ⟨v10, haq32.pick' ⟨rfl, rfl, rfl, trivial⟩, St.sel hsq32 3 [0, 1, 2] rfl rfl⟩⟩
  · rintro aq33 wq33 ⟨s4, ho1, v7, haq33, hsq33⟩
    replace hm := loopOut ho1 hc1
    clear ho1 hc1 hl1
    refine nrm ?_
    refine wp_seq ?_
    refine wp_region_lit ?_
    refine seq_op haq33 hsq33 rfl (opT_lit_cpy (E := 4) (R := rBool) (S := rBool) [(.bool false, [.bool false])] [false] cpy_bool (rd_all ⟨rfl, trivial⟩) Try.underlying22 tz4 (by decide) rfl (by decide) (by decide) rfl rfl rfl rfl (us_all ⟨⟨rfl, rfl⟩, trivial⟩)) (List.Perm.refl _) rfl ?_
    rintro v11 aq34 wq34 - haq34 (hsq34 : St I w0 wq34 [Ch.own (rSlice 4 rBool) [v11] ([false]), Ch.own (rSlice 3 rInt) [v7] s4.1, Ch.blk g1 [.int .i64 0, .slice none 0 0, .slice none 0 0] 27, F])
    clear haq33 hsq33 aq33 wq33
    refine seq_op0 haq34 hsq34 (opT_move (v := v7) rfl rfl) rfl rfl ?_
    rintro u aq35 wq35 hf haq35 hsq35
    obtain rfl := Eq.symm hf
    clear haq34 hsq34 aq34 wq34
    refine seq_op haq35 hsq35 rfl (opT_lit (E := 34) (R := rSlice 3 rInt) [(v7, [v7])] [s4.1] Try.underlying23 tz34 (by decide) rfl (by decide) (by decide) rfl rfl rfl rfl (us_all ⟨⟨(Hd.cells (St.hd hsq35 1 rfl).1), rfl⟩, trivial⟩)) (perm_front (i := 1) rfl) rfl ?_
    rintro v12 aq36 wq36 - haq36 (hsq36 : St I w0 wq36 [Ch.own (rSlice 34 (rSlice 3 rInt)) [v12] ([s4.1]), Ch.own (rSlice 4 rBool) [v11] ([false]), Ch.blk g1 [.int .i64 0, .slice none 0 0, .slice none 0 0] 27, F])
    clear haq35 hsq35 aq35 wq35
    refine seq_op0 haq36 hsq36 (opT_build (zl := [.int .i64 0, .slice none 0 0, .slice none 0 0]) (r := [.int .i64 0, v11, v12]) [(1, [v11]), (2, [v12])] tb27 tz27 rfl rfl ⟨rfl, (Hd.cells (St.hd hsq36 1 rfl).1), rfl, (Hd.cells (St.hd hsq36 0 rfl).1), trivial⟩ rfl) rfl rfl ?_
    rintro u aq37 wq37 hf haq37 hsq37
    obtain rfl := Eq.symm hf
    clear haq36 hsq36 aq36 wq36
    refine seq_op haq37 hsq37 rfl (opT_store_blk (g := g1) (off := 0) (l := [.int .i64 0, .slice none 0 0, .slice none 0 0]) (d := [.int .i64 0, v11, v12]) (E := 27) (u := .agg #[.int .i64 0, v11, v12]) ti27 rfl rfl rfl rfl rfl (allC rfl (allC (Hd.one (St.hd hsq37 1 rfl).1) (allC (Hd.one (St.hd hsq37 0 rfl).1) allN))) (Nat.le_of_ble_eq_true rfl)) (perm_front (i := 2) rfl) rfl ?_
    rintro _ aq38 wq38 - haq38 (hsq38 : St I w0 wq38 [Ch.blk g1 [.int .i64 0, v11, v12] 27, Ch.own (rSlice 34 (rSlice 3 rInt)) [v12] ([s4.1]), Ch.own (rSlice 4 rBool) [v11] ([false]), F])
    clear haq37 hsq37 aq37 wq37
    refine wpList_nil ?_
    replace haq38 := haq38.pick' (L' := [(0, .pointer (some ⟨g1, 0, none⟩))]) ⟨rfl, trivial⟩
    refine nrm ?_
    refine wp_ret ?_
    obtain rfl := Option.some.inj hm
    exact ret_1 haq38 rfl (res_cell (g := g1) haq38 rfl hsq38 0 rfl ti27 rfl) ⟨_, rfl, ⟨_, _, rfl⟩, _, Hp.le.rfl, St.sel (hsq38) 4 [2, 1, 3] rfl rfl⟩
set_option maxHeartbeats 8000000 in
theorem c_w_toIntS (p0a : List Int) (r : List Int) (hm : m_w_toIntS p0a = some r) {I : Hp} {w0 : World} (va0 : Value) (ra0 : (rSlice 3 rInt).rd I [va0] p0a) : Con Try.prog 66 #[va0] I w0 [] (fun v => True) (fun v => [Ch.own (rSlice 3 rInt) [v] r]) := by
  refine con_of_wp (n := 22) [(0, va0)] Try.func66 rfl rfl (Nat.le_of_ble_eq_true rfl) (args_all ⟨rfl, trivial⟩) (fun F w a ha hs => ?_) (fun v => ⟨dp_own (dp_slice dp_int), trivial⟩)
  unfold m_w_toIntS at hm
  refine wp_seq ?_
  refine wp_region_lit ?_
  refine seq_op0 ha hs (opT_assign (v := .slice none 0 0) rfl rfl) rfl rfl ?_
  rintro u aq1 wq1 hf haq1 hsq1
  obtain rfl := Eq.symm hf
  clear ha hs a w
  refine wpList_nil ?_
  replace haq1 := haq1.pick' (L' := [(0, va0)]) ⟨rfl, trivial⟩
  refine nrm ?_
  refine wp_seq ?_
  refine wp_region_lit ?_
  refine seq_op0 haq1 hsq1 (opT_move (v := va0) rfl rfl) rfl rfl ?_
  rintro u aq2 wq2 hf haq2 hsq2
  obtain rfl := Eq.symm hf
  clear haq1 hsq1 aq1 wq1
  refine seq_op0 haq2 hsq2 (opT_len_hd (v := va0) (n := p0a.length) (Hd.of_rd ra0) Try.underlying34 rfl rfl) rfl rfl ?_
  rintro u aq3 wq3 hf haq3 hsq3
  obtain rfl := Eq.symm hf
  clear haq2 hsq2 aq2 wq2
  obtain ⟨x1, hk1, hm⟩ := bind_some hm
  refine seq_op haq3 hsq3 rfl (opT_mk (E := 3) (R := rInt) (zv := .int .i64 0) (z := (0 : Int)) zro_flat Try.underlying34 tz3 rfl rfl (by decide) (by decide) rfl rfl hk1) (List.Perm.refl _) rfl ?_
  rintro v1 aq4 wq4 - haq4 (hsq4 : St I w0 wq4 [Ch.own (rSlice 3 rInt) [v1] x1, F])
  clear haq3 hsq3 aq3 wq3
  refine seq_op0 haq4 hsq4 (opT_assign (v := v1) rfl rfl) rfl rfl ?_
  rintro u aq5 wq5 hf haq5 hsq5
  obtain rfl := Eq.symm hf
  clear haq4 hsq4 aq4 wq4
  refine wpList_nil ?_
  replace haq5 := haq5.pick' (L' := [(0, va0), (3, v1)]) ⟨rfl, rfl, trivial⟩
  refine nrm ?_
  refine wp_seq ?_
  refine wp_seq ?_
  refine wp_region_lit ?_
  refine seq_op0 haq5 hsq5 (opT_assign (v := .int .i64 0) rfl rfl) rfl rfl ?_
  rintro u aq6 wq6 hf haq6 hsq6
  obtain rfl := Eq.symm hf
  clear haq5 hsq5 aq5 wq5
  refine wpList_nil ?_
  replace haq6 := haq6.pick' (L' := [(0, va0), (3, v1), (4, .int .i64 0)]) ⟨rfl, rfl, rfl, trivial⟩
  refine nrm ?_
  obtain ⟨o1, hl1, hc1⟩ := bindL_some hm
  refine wp_cut (fun a w => ∃ s4 : (List Int) × Int, o1 = .brk s4 ∧ Agr 22 a [(3, v1)] ∧ St I w0 w [Ch.own (rSlice 3 rInt) [v1] s4.1, F]) ?_ ?_
  · refine wp_block (wp_loopM (R := List Int) (S := (List Int) × Int) (fun s3 a w => Agr 22 a [(0, va0), (3, v1), (4, .int .i64 s3.2)] ∧ St I w0 w [Ch.own (rSlice 3 rInt) [v1] s3.1, F]) hl1 ?_ ?_)
    · exact ⟨haq6.pick' ⟨rfl, rfl, rfl, trivial⟩, St.sel hsq6 2 [0, 1] rfl rfl⟩
    · rintro s3 o2 hm hf1 aq37 wq37 ⟨haq37, hsq37⟩
      unfold m_w_toIntS_l0 at hm
      refine wp_seq ?_
      refine wp_seq ?_
      refine wp_region_lit ?_
      refine seq_op0 haq37 hsq37 (opT_move (v := .int .i64 s3.2) rfl rfl) rfl rfl ?_
      rintro u aq38 wq38 hf haq38 hsq38
      obtain rfl := Eq.symm hf
      clear haq37 hsq37 aq37 wq37
      refine seq_op0 haq38 hsq38 (opT_move (v := va0) rfl rfl) rfl rfl ?_
      rintro u aq39 wq39 hf haq39 hsq39
      obtain rfl := Eq.symm hf
      clear haq38 hsq38 aq38 wq38
      refine seq_op0 haq39 hsq39 (opT_len_hd (v := va0) (n := p0a.length) (Hd.of_rd ra0) Try.underlying34 rfl rfl) rfl rfl ?_
      rintro u aq40 wq40 hf haq40 hsq40
      obtain rfl := Eq.symm hf
      clear haq39 hsq39 aq39 wq39
      refine seq_op0 haq40 hsq40 (opT_cmp (k := .i64) (m := s3.2) (n := (p0a.length : Int)) (c := decide (s3.2 < (p0a.length : Int))) rfl rfl rfl rfl rfl) rfl rfl ?_
      rintro u aq41 wq41 hf haq41 hsq41
      obtain rfl := Eq.symm hf
      clear haq40 hsq40 aq40 wq40
      refine wpList_nil ?_
      replace haq41 := haq41.pick' (L' := [(0, va0), (3, v1), (4, .int .i64 s3.2), (11, .bool (decide (s3.2 < (p0a.length : Int))))]) ⟨rfl, rfl, rfl, rfl, trivial⟩
      refine nrm ?_
      rcases two (decide (s3.2 < (p0a.length : Int))) with hb3 | hb3
      · replace hm := ifFe hb3 hm
        refine cnd_false (b := decide (s3.2 < (p0a.length : Int))) haq41 rfl rfl hb3 ?_
        refine wp_exit ?_
        refine thenX ?_
        refine thenX ?_
        refine ex_in ?_
        refine nrm ?_
        exact ⟨_, loopBrk hm hf1, ⟨haq41.pick' ⟨rfl, trivial⟩, St.sel hsq41 2 [0, 1] rfl rfl⟩⟩
      · replace hm := ifTe hb3 hm
        refine cnd_true (b := decide (s3.2 < (p0a.length : Int))) haq41 rfl rfl hb3 ?_
        refine wp_skip ?_
        refine nrm ?_
        refine wp_seq ?_
        refine wp_block ?_
        refine wp_region_lit ?_
        refine seq_op0 haq41 hsq41 (opT_move (v := v1) rfl rfl) rfl rfl ?_
        rintro u aq42 wq42 hf haq42 hsq42
        obtain rfl := Eq.symm hf
        clear haq41 hsq41 aq41 wq41
        refine seq_op0 haq42 hsq42 (opT_move (v := .int .i64 s3.2) rfl rfl) rfl rfl ?_
        rintro u aq43 wq43 hf haq43 hsq43
        obtain rfl := Eq.symm hf
        clear haq42 hsq42 aq42 wq42
        refine seq_op0 haq43 hsq43 (opT_move (v := va0) rfl rfl) rfl rfl ?_
        rintro u aq44 wq44 hf haq44 hsq44
        obtain rfl := Eq.symm hf
        clear haq43 hsq43 aq43 wq43
        refine seq_op0 haq44 hsq44 (opT_move (v := .int .i64 s3.2) rfl rfl) rfl rfl ?_
        rintro u aq45 wq45 hf haq45 hsq45
        obtain rfl := Eq.symm hf
        clear haq44 hsq44 aq44 wq44
        obtain ⟨x6, e5, hm⟩ := bind_some hm
        refine seq_op0 haq45 hsq45 (opT_index_hd (xs := p0a) (i := s3.2) (n := 1) (Hd.of_rd ra0) Try.underlying34 ti3 rfl rfl rfl (getI_in e5)) rfl rfl ?_
        rintro u aq46 wq46 hf haq46 hsq46
        obtain rfl := Eq.symm hf
        clear haq45 hsq45 aq45 wq45
        refine seq_op0 haq46 hsq46 (opT_load_el (S := rInt) (xs := p0a) (a := x6) (i := s3.2) (k := 1) (off := 0) (f := fun (x : Int) => x) ra0 e5 Fld.self ti3 rfl rfl rfl rfl rfl) rfl rfl ?_
        rintro u aq47 wq47 hf haq47 hsq47
        obtain rfl := lds_one hf
        clear haq46 hsq46 aq46 wq46
        obtain ⟨x7, e6, hm⟩ := bind_some hm
        refine seq_op0 haq47 hsq47 (opT_index_hd (xs := s3.1) (i := s3.2) (n := 1) (St.hd hsq47 0 rfl).1 Try.underlying34 ti3 rfl rfl rfl (getI_in e6)) rfl rfl ?_
        rintro u aq48 wq48 hf haq48 hsq48
        obtain rfl := Eq.symm hf
        clear haq47 hsq47 aq47 wq47
        refine seq_op haq48 hsq48 rfl (opT_store_el (E := 3) (R := rInt) (S := rInt) (xs := s3.1) (a := x7) (b := x6) (i := s3.2) (k := 1) (off := 0) (f := fun x y => y) (v := v1) (d := [.int .i64 x6]) (u := .int .i64 x6) sh_int cpy_int e6 Upd.self ti3 rfl rfl rfl rfl (allC rfl allN) rfl rfl (by decide) rfl) (perm_front (i := 0) rfl) rfl ?_
        rintro _ aq49 wq49 - haq49 (hsq49 : St I w0 wq49 [Ch.own (rSlice 3 rInt) [v1] (s3.1.set s3.2.toNat x6), F])
        clear haq48 hsq48 aq48 wq48
        refine wpList_nil ?_
        replace haq49 := haq49.pick' (L' := [(0, va0), (3, v1), (4, .int .i64 s3.2)]) ⟨rfl, rfl, rfl, trivial⟩
        refine nrmB ?_
        refine nrm ?_
        refine wp_region_lit ?_
        refine seq_op0 haq49 hsq49 (opT_move (v := .int .i64 s3.2) rfl rfl) rfl rfl ?_
        rintro u aq50 wq50 hf haq50 hsq50
        obtain rfl := Eq.symm hf
        clear haq49 hsq49 aq49 wq49
        refine seq_op0 haq50 hsq50 (opT_add (m := s3.2) (n := 1) rfl rfl rfl) rfl rfl ?_
        rintro u aq51 wq51 hf haq51 hsq51
        obtain rfl := Eq.symm hf
        clear haq50 hsq50 aq50 wq50
        refine seq_op0 haq51 hsq51 (opT_assign (v := .int .i64 (IntKind.i64.wrap (s3.2 + 1))) rfl rfl) rfl rfl ?_
        rintro u aq52 wq52 hf haq52 hsq52
        obtain rfl := Eq.symm hf
        clear haq51 hsq51 aq51 wq51
        refine wpList_nil ?_
        replace haq52 := haq52.pick' (L' := [(0, va0), (3, v1), (4, .int .i64 (IntKind.i64.wrap (s3.2 + 1)))]) ⟨rfl, rfl, rfl, trivial⟩
        refine nrm ?_
        exact ⟨_, (Option.some.inj hm).symm, ⟨haq52.pick' ⟨rfl, rfl, rfl, trivial⟩, St.sel hsq52 2 [0, 1] rfl rfl⟩⟩
  · rintro aq53 wq53 ⟨s4, ho1, haq53, hsq53⟩
    replace hm := loopOut ho1 hc1
    clear ho1 hc1 hl1
    refine nrm ?_
    refine wp_seq ?_
    refine wp_region_lit ?_
    refine seq_op0 haq53 hsq53 (opT_move (v := v1) rfl rfl) rfl rfl ?_
    rintro u aq54 wq54 hf haq54 hsq54
    obtain rfl := Eq.symm hf
    clear haq53 hsq53 aq53 wq53
    refine seq_op0 haq54 hsq54 (opT_assign (v := v1) rfl rfl) rfl rfl ?_
    rintro u aq55 wq55 hf haq55 hsq55
    obtain rfl := Eq.symm hf
    clear haq54 hsq54 aq54 wq54
    refine wpList_nil ?_
    replace haq55 := haq55.pick' (L' := [(2, v1)]) ⟨rfl, trivial⟩
    refine nrm ?_
    refine wp_ret ?_
    obtain rfl := Option.some.inj hm
    exact ret_1 haq55 rfl (res_tmp haq55 rfl) ⟨_, rfl, trivial, _, Hp.le.rfl, St.sel (hsq55) 2 [0, 1] rfl rfl⟩
set_option maxHeartbeats 8000000 in
theorem c_s_l11Find (p0l : List Int) (p1x : Int) (r : Int) (hm : m_s_l11Find p0l p1x = some r) {I : Hp} {w0 : World} (va0 : Value) (ra0 : (rSlice 3 rInt).rd I [va0] p0l) : Con Try.prog 94 #[va0, .int .i64 p1x] I w0 [] (fun v => v = .int .i64 r) (fun v => []) := by
  refine con_of_wp (n := 19) [(0, va0), (1, .int .i64 p1x)] Try.func94 rfl rfl (Nat.le_of_ble_eq_true rfl) (args_all ⟨rfl, rfl, trivial⟩) (fun F w a ha hs => ?_) (fun v => trivial)
  unfold m_s_l11Find at hm
  refine wp_seq ?_
  refine wp_region_lit ?_
  refine seq_op0 ha hs (opT_assign (v := .int .i64 0) rfl rfl) rfl rfl ?_
  rintro u aq1 wq1 hf haq1 hsq1
  obtain rfl := Eq.symm hf
  clear ha hs a w
  refine wpList_nil ?_
  replace haq1 := haq1.pick' (L' := [(0, va0), (1, .int .i64 p1x)]) ⟨rfl, rfl, trivial⟩
  refine nrm ?_
  refine wp_seq ?_
  refine wp_seq ?_
  refine wp_region_lit ?_
  refine seq_op0 haq1 hsq1 (opT_assign (v := .int .i64 0) rfl rfl) rfl rfl ?_
  rintro u aq2 wq2 hf haq2 hsq2
  obtain rfl := Eq.symm hf
  clear haq1 hsq1 aq1 wq1
  refine wpList_nil ?_
  replace haq2 := haq2.pick' (L' := [(0, va0), (1, .int .i64 p1x), (5, .int .i64 0)]) ⟨rfl, rfl, rfl, trivial⟩
  refine nrm ?_
  obtain ⟨o1, hl1, hc1⟩ := bindL_some hm
  refine wp_cut (fun a w => ∃ s4 : Int, o1 = .brk s4 ∧ Agr 19 a [] ∧ St I w0 w [F]) ?_ ?_
  · refine wp_block (wp_loopM (R := Int) (S := Int) (fun s3 a w => Agr 19 a [(0, va0), (1, .int .i64 p1x), (5, .int .i64 s3)] ∧ St I w0 w [F]) hl1 ?_ ?_)
    · exact ⟨haq2.pick' ⟨rfl, rfl, rfl, trivial⟩, St.sel hsq2 1 [0] rfl rfl⟩
    · rintro s3 o2 hm hf1 aq33 wq33 ⟨haq33, hsq33⟩
      unfold m_s_l11Find_l0 at hm
      refine wp_seq ?_
      refine wp_seq ?_
      refine wp_region_lit ?_
      refine seq_op0 haq33 hsq33 (opT_move (v := .int .i64 s3) rfl rfl) rfl rfl ?_
      rintro u aq34 wq34 hf haq34 hsq34
      obtain rfl := Eq.symm hf
      clear haq33 hsq33 aq33 wq33
      refine seq_op0 haq34 hsq34 (opT_move (v := va0) rfl rfl) rfl rfl ?_
      rintro u aq35 wq35 hf haq35 hsq35
      obtain rfl := Eq.symm hf
      clear haq34 hsq34 aq34 wq34
      refine seq_op0 haq35 hsq35 (opT_len_hd (v := va0) (n := p0l.length) (Hd.of_rd ra0) Try.underlying34 rfl rfl) rfl rfl ?_
      rintro u aq36 wq36 hf haq36 hsq36
      obtain rfl := Eq.symm hf
      clear haq35 hsq35 aq35 wq35
      refine seq_op0 haq36 hsq36 (opT_cmp (k := .i64) (m := s3) (n := (p0l.length : Int)) (c := decide (s3 < (p0l.length : Int))) rfl rfl rfl rfl rfl) rfl rfl ?_
      rintro u aq37 wq37 hf haq37 hsq37
      obtain rfl := Eq.symm hf
      clear haq36 hsq36 aq36 wq36
      refine wpList_nil ?_
      replace haq37 := haq37.pick' (L' := [(0, va0), (1, .int .i64 p1x), (5, .int .i64 s3), (9, .bool (decide (s3 < (p0l.length : Int))))]) ⟨rfl, rfl, rfl, rfl, trivial⟩
      refine nrm ?_
      rcases two (decide (s3 < (p0l.length : Int))) with hb5 | hb5
      · replace hm := ifFe hb5 hm
        refine cnd_false (b := decide (s3 < (p0l.length : Int))) haq37 rfl rfl hb5 ?_
        refine wp_exit ?_
        refine thenX ?_
        refine thenX ?_
        refine ex_in ?_
        refine nrm ?_
        exact ⟨_, loopBrk hm hf1, ⟨haq37.pick' trivial, St.sel hsq37 1 [0] rfl rfl⟩⟩
      · replace hm := ifTe hb5 hm
        refine cnd_true (b := decide (s3 < (p0l.length : Int))) haq37 rfl rfl hb5 ?_
        refine wp_skip ?_
        refine nrm ?_
        refine wp_seq ?_
        refine wp_block ?_
        refine wp_seq ?_
        refine wp_region_lit ?_
        refine seq_op0 haq37 hsq37 (opT_move (v := va0) rfl rfl) rfl rfl ?_
        rintro u aq38 wq38 hf haq38 hsq38
        obtain rfl := Eq.symm hf
        clear haq37 hsq37 aq37 wq37
        refine seq_op0 haq38 hsq38 (opT_move (v := .int .i64 s3) rfl rfl) rfl rfl ?_
        rintro u aq39 wq39 hf haq39 hsq39
        obtain rfl := Eq.symm hf
        clear haq38 hsq38 aq38 wq38
        obtain ⟨x3, e3, hm⟩ := bind_some hm
        refine seq_op0 haq39 hsq39 (opT_index_hd (xs := p0l) (i := s3) (n := 1) (Hd.of_rd ra0) Try.underlying34 ti3 rfl rfl rfl (getI_in e3)) rfl rfl ?_
        rintro u aq40 wq40 hf haq40 hsq40
        obtain rfl := Eq.symm hf
        clear haq39 hsq39 aq39 wq39
        refine seq_op0 haq40 hsq40 (opT_load_el (S := rInt) (xs := p0l) (a := x3) (i := s3) (k := 1) (off := 0) (f := fun (x : Int) => x) ra0 e3 Fld.self ti3 rfl rfl rfl rfl rfl) rfl rfl ?_
        rintro u aq41 wq41 hf haq41 hsq41
        obtain rfl := lds_one hf
        clear haq40 hsq40 aq40 wq40
        refine seq_op0 haq41 hsq41 (opT_move (v := .int .i64 p1x) rfl rfl) rfl rfl ?_
        rintro u aq42 wq42 hf haq42 hsq42
        obtain rfl := Eq.symm hf
        clear haq41 hsq41 aq41 wq41
        refine seq_op0 haq42 hsq42 (opT_cmp (k := .i64) (m := x3) (n := p1x) (c := x3 == p1x) rfl rfl rfl rfl rfl) rfl rfl ?_
        rintro u aq43 wq43 hf haq43 hsq43
        obtain rfl := Eq.symm hf
        clear haq42 hsq42 aq42 wq42
        refine wpList_nil ?_
        replace haq43 := haq43.pick' (L' := [(0, va0), (1, .int .i64 p1x), (5, .int .i64 s3), (17, .bool (x3 == p1x))]) ⟨rfl, rfl, rfl, rfl, trivial⟩
        refine nrm ?_
        rcases two (x3 == p1x) with hb6 | hb6
        · replace hm := ifFe hb6 hm
          refine cnd_false (b := x3 == p1x) haq43 rfl rfl hb6 ?_
          refine wp_skip ?_
          refine nrmB ?_
          refine nrm ?_
          refine wp_region_lit ?_
          refine seq_op0 haq43 hsq43 (opT_move (v := .int .i64 s3) rfl rfl) rfl rfl ?_
          rintro u aq44 wq44 hf haq44 hsq44
          obtain rfl := Eq.symm hf
          clear haq43 hsq43 aq43 wq43
          refine seq_op0 haq44 hsq44 (opT_add (m := s3) (n := 1) rfl rfl rfl) rfl rfl ?_
          rintro u aq45 wq45 hf haq45 hsq45
          obtain rfl := Eq.symm hf
          clear haq44 hsq44 aq44 wq44
          refine seq_op0 haq45 hsq45 (opT_assign (v := .int .i64 (IntKind.i64.wrap (s3 + 1))) rfl rfl) rfl rfl ?_
          rintro u aq46 wq46 hf haq46 hsq46
          obtain rfl := Eq.symm hf
          clear haq45 hsq45 aq45 wq45
          refine wpList_nil ?_
          replace haq46 := haq46.pick' (L' := [(0, va0), (1, .int .i64 p1x), (5, .int .i64 (IntKind.i64.wrap (s3 + 1)))]) ⟨rfl, rfl, rfl, trivial⟩
          refine nrm ?_
          exact ⟨_, (Option.some.inj hm).symm, ⟨haq46.pick' ⟨rfl, rfl, rfl, trivial⟩, St.sel hsq46 1 [0] rfl rfl⟩⟩
        · replace hm := ifTe hb6 hm
          refine cnd_true (b := x3 == p1x) haq43 rfl rfl hb6 ?_
          refine wp_seq ?_
          refine wp_region_lit ?_
          refine seq_op0 haq43 hsq43 (opT_move (v := .int .i64 s3) rfl rfl) rfl rfl ?_
          rintro u aq47 wq47 hf haq47 hsq47
          obtain rfl := Eq.symm hf
          clear haq43 hsq43 aq43 wq43
          refine seq_op0 haq47 hsq47 (opT_assign (v := .int .i64 s3) rfl rfl) rfl rfl ?_
          rintro u aq48 wq48 hf haq48 hsq48
          obtain rfl := Eq.symm hf
          clear haq47 hsq47 aq47 wq47
          refine wpList_nil ?_
          replace haq48 := haq48.pick' (L' := [(4, .int .i64 s3)]) ⟨rfl, trivial⟩
          refine nrm ?_
          refine wp_ret ?_
          refine blkR ?_
          refine thenR ?_
          refine thenR ?_
          refine blkR ?_
          refine thenR ?_
          refine thenR ?_
          replace hm := loopRet hm hf1 hc1
          obtain rfl := Option.some.inj hm
          exact ret_1 haq48 rfl (res_tmp haq48 rfl) ⟨_, rfl, rfl, _, Hp.le.rfl, St.sel (hsq48) 1 [0] rfl rfl⟩
  · rintro aq49 wq49 ⟨s4, ho1, haq49, hsq49⟩
    replace hm := loopOut ho1 hc1
    clear ho1 hc1 hl1
    refine nrm ?_
    refine wp_seq ?_
    refine wp_region_lit ?_
    refine seq_op0 haq49 hsq49 (opT_assign (v := .int .i64 (-1)) rfl rfl) rfl rfl ?_
    rintro u aq50 wq50 hf haq50 hsq50
    obtain rfl := Eq.symm hf
    clear haq49 hsq49 aq49 wq49
    refine wpList_nil ?_
    replace haq50 := haq50.pick' (L' := [(4, .int .i64 (-1))]) ⟨rfl, trivial⟩
    refine nrm ?_
    refine wp_ret ?_
    obtain rfl := Option.some.inj hm
    exact ret_1 haq50 rfl (res_tmp haq50 rfl) ⟨_, rfl, rfl, _, Hp.le.rfl, St.sel (hsq50) 1 [0] rfl rfl⟩
set_option maxHeartbeats 8000000 in
theorem c_w_szIntS (p0a : List Int) (p1left : Int) (r : Int) (hm : m_w_szIntS p0a p1left = some r) {I : Hp} {w0 : World} (va0 : Value) (ra0 : (rSlice 3 rInt).rd I [va0] p0a) : Con Try.prog 63 #[va0, .int .i64 p1left] I w0 [] (fun v => v = .int .i64 r) (fun v => []) := by
  refine con_of_wp (n := 12) [(0, va0), (1, .int .i64 p1left)] Try.func63 rfl rfl (Nat.le_of_ble_eq_true rfl) (args_all ⟨rfl, rfl, trivial⟩) (fun F w a ha hs => ?_) (fun v => trivial)
  unfold m_w_szIntS at hm
  refine wp_seq ?_
  refine wp_region_lit ?_
  refine seq_op0 ha hs (opT_assign (v := .int .i64 0) rfl rfl) rfl rfl ?_
  rintro u aq1 wq1 hf haq1 hsq1
  obtain rfl := Eq.symm hf
  clear ha hs a w
  refine wpList_nil ?_
  replace haq1 := haq1.pick' (L' := [(0, va0), (1, .int .i64 p1left)]) ⟨rfl, rfl, trivial⟩
  refine nrm ?_
  refine wp_seq ?_
  refine wp_region_lit ?_
  refine seq_op0 haq1 hsq1 (opT_move (v := .int .i64 p1left) rfl rfl) rfl rfl ?_
  rintro u aq2 wq2 hf haq2 hsq2
  obtain rfl := Eq.symm hf
  clear haq1 hsq1 aq1 wq1
  refine seq_op0 haq2 hsq2 (opT_move (v := va0) rfl rfl) rfl rfl ?_
  rintro u aq3 wq3 hf haq3 hsq3
  obtain rfl := Eq.symm hf
  clear haq2 hsq2 aq2 wq2
  refine seq_op0 haq3 hsq3 (opT_len_hd (v := va0) (n := p0a.length) (Hd.of_rd ra0) Try.underlying34 rfl rfl) rfl rfl ?_
  rintro u aq4 wq4 hf haq4 hsq4
  obtain rfl := Eq.symm hf
  clear haq3 hsq3 aq3 wq3
  refine seq_op0 haq4 hsq4 (opT_sub (m := p1left) (n := (p0a.length : Int)) rfl rfl rfl) rfl rfl ?_
  rintro u aq5 wq5 hf haq5 hsq5
  obtain rfl := Eq.symm hf
  clear haq4 hsq4 aq4 wq4
  refine seq_op0 haq5 hsq5 (opT_assign (v := .int .i64 (IntKind.i64.wrap (p1left - (p0a.length : Int)))) rfl rfl) rfl rfl ?_
  rintro u aq6 wq6 hf haq6 hsq6
  obtain rfl := Eq.symm hf
  clear haq5 hsq5 aq5 wq5
  refine wpList_nil ?_
  replace haq6 := haq6.pick' (L' := [(1, .int .i64 (IntKind.i64.wrap (p1left - (p0a.length : Int))))]) ⟨rfl, trivial⟩
  refine nrm ?_
  refine wp_seq ?_
  refine wp_seq ?_
  refine wp_region_lit ?_
  refine seq_op0 haq6 hsq6 (opT_move (v := .int .i64 (IntKind.i64.wrap (p1left - (p0a.length : Int)))) rfl rfl) rfl rfl ?_
  rintro u aq7 wq7 hf haq7 hsq7
  obtain rfl := Eq.symm hf
  clear haq6 hsq6 aq6 wq6
  refine seq_op0 haq7 hsq7 (opT_cmp (k := .i64) (m := IntKind.i64.wrap (p1left - (p0a.length : Int))) (n := 0) (c := decide (IntKind.i64.wrap (p1left - (p0a.length : Int)) < 0)) rfl rfl rfl rfl rfl) rfl rfl ?_
  rintro u aq8 wq8 hf haq8 hsq8
  obtain rfl := Eq.symm hf
  clear haq7 hsq7 aq7 wq7
  refine wpList_nil ?_
  replace haq8 := haq8.pick' (L' := [(1, .int .i64 (IntKind.i64.wrap (p1left - (p0a.length : Int)))), (10, .bool (decide (IntKind.i64.wrap (p1left - (p0a.length : Int)) < 0)))]) ⟨rfl, rfl, trivial⟩
  refine nrm ?_
  rcases two (decide (IntKind.i64.wrap (p1left - (p0a.length : Int)) < 0)) with hb1 | hb1
  · replace hm := ifFe hb1 hm
    refine cnd_false (b := decide (IntKind.i64.wrap (p1left - (p0a.length : Int)) < 0)) haq8 rfl rfl hb1 ?_
    refine wp_skip ?_
    refine nrm ?_
    refine wp_seq ?_
    refine wp_region_lit ?_
    refine seq_op0 haq8 hsq8 (opT_move (v := .int .i64 (IntKind.i64.wrap (p1left - (p0a.length : Int)))) rfl rfl) rfl rfl ?_
    rintro u aq9 wq9 hf haq9 hsq9
    obtain rfl := Eq.symm hf
    clear haq8 hsq8 aq8 wq8
    refine seq_op0 haq9 hsq9 (opT_assign (v := .int .i64 (IntKind.i64.wrap (p1left - (p0a.length : Int)))) rfl rfl) rfl rfl ?_
    rintro u aq10 wq10 hf haq10 hsq10
    obtain rfl := Eq.symm hf
    clear haq9 hsq9 aq9 wq9
    refine wpList_nil ?_
    replace haq10 := haq10.pick' (L' := [(4, .int .i64 (IntKind.i64.wrap (p1left - (p0a.length : Int))))]) ⟨rfl, trivial⟩
    refine nrm ?_
    refine wp_ret ?_
    obtain rfl := Option.some.inj hm
    exact ret_1 haq10 rfl (res_tmp haq10 rfl) ⟨_, rfl, rfl, _, Hp.le.rfl, St.sel (hsq10) 1 [0] rfl rfl⟩
  · replace hm := ifTe hb1 hm
    refine cnd_true (b := decide (IntKind.i64.wrap (p1left - (p0a.length : Int)) < 0)) haq8 rfl rfl hb1 ?_
    refine wp_seq ?_
    refine wp_region_lit ?_
    refine seq_op0 haq8 hsq8 (opT_assign (v := .int .i64 (-1)) rfl rfl) rfl rfl ?_
    rintro u aq11 wq11 hf haq11 hsq11
    obtain rfl := Eq.symm hf
    clear haq8 hsq8 aq8 wq8
    refine wpList_nil ?_
    replace haq11 := haq11.pick' (L' := [(4, .int .i64 (-1))]) ⟨rfl, trivial⟩
    refine nrm ?_
    refine wp_ret ?_
    refine thenR ?_
    obtain rfl := Option.some.inj hm
    exact ret_1 haq11 rfl (res_tmp haq11 rfl) ⟨_, rfl, rfl, _, Hp.le.rfl, St.sel (hsq11) 1 [0] rfl rfl⟩
end Go.Proofs.Ytcihbmdppgpmjaa.D
