/- Printed by dec.py: models of functions and the walks that show them. -/
import Derived.Test.YtcihbmdppgpmjaaEw0_0
import Derived.Test.YtcihbmdppgpmjaaEw0_1
import Derived.Test.YtcihbmdppgpmjaaEw0_2
import Derived.Test.YtcihbmdppgpmjaaEw0_3
set_option linter.unusedVariables false
set_option linter.unusedSimpArgs false
set_option linter.unnecessarySimpa false
set_option maxRecDepth 100000
namespace Go.Proofs.Ytcihbmdppgpmjaa.D
open Go.RowKit
set_option maxHeartbeats 8000000 in
theorem c_w_eqEdgeS (p0a : List (Int × Int × Int × Int)) (p1b : List (Int × Int × Int × Int)) (r : Bool) (hm : m_w_eqEdgeS p0a p1b = some r) {I : Hp} {w0 : World} (va0 : Value) (va1 : Value) (ra0 : (rSlice 126 (rProd rInt (rProd rInt (rProd rInt rInt)))).rd I [va0] p0a) (ra1 : (rSlice 126 (rProd rInt (rProd rInt (rProd rInt rInt)))).rd I [va1] p1b) : Con Try.prog 70 #[va0, va1] I w0 [] (fun v => v = .bool r) (fun v => []) := by
  refine con_of_wp (n := 27) [(0, va0), (1, va1)] Try.func70 rfl rfl (Nat.le_of_ble_eq_true rfl) (args_all ⟨rfl, rfl, trivial⟩) (fun F w a ha hs => ?_) (fun v => trivial)
  unfold m_w_eqEdgeS at hm
  refine wp_seq ?_
  refine wp_region_lit ?_
  refine seq_op0 ha hs (opT_assign (v := .bool false) rfl rfl) rfl rfl ?_
  rintro u aq1 wq1 hf haq1 hsq1
  obtain rfl := Eq.symm hf
  clear ha hs a w
  refine wpList_nil ?_
  replace haq1 := haq1.pick' (L' := [(0, va0), (1, va1)]) ⟨rfl, rfl, trivial⟩
  refine nrm ?_
  refine wp_seq ?_
  refine wp_seq ?_
  refine wp_region_lit ?_
  refine seq_op0 haq1 hsq1 (opT_move (v := va0) rfl rfl) rfl rfl ?_
  rintro u aq2 wq2 hf haq2 hsq2
  obtain rfl := Eq.symm hf
  clear haq1 hsq1 aq1 wq1
  refine seq_op0 haq2 hsq2 (opT_len_hd (v := va0) (n := p0a.length) (Hd.of_rd ra0) Try.underlying43 rfl rfl) rfl rfl ?_
  rintro u aq3 wq3 hf haq3 hsq3
  obtain rfl := Eq.symm hf
  clear haq2 hsq2 aq2 wq2
  refine seq_op0 haq3 hsq3 (opT_move (v := va1) rfl rfl) rfl rfl ?_
  rintro u aq4 wq4 hf haq4 hsq4
  obtain rfl := Eq.symm hf
  clear haq3 hsq3 aq3 wq3
  refine seq_op0 haq4 hsq4 (opT_len_hd (v := va1) (n := p1b.length) (Hd.of_rd ra1) Try.underlying43 rfl rfl) rfl rfl ?_
  rintro u aq5 wq5 hf haq5 hsq5
  obtain rfl := Eq.symm hf
  clear haq4 hsq4 aq4 wq4
  refine seq_op0 haq5 hsq5 (opT_cmp (k := .i64) (m := (p0a.length : Int)) (n := (p1b.length : Int)) (c := (p0a.length : Int) != (p1b.length : Int)) rfl rfl rfl rfl rfl) rfl rfl ?_
  rintro u aq6 wq6 hf haq6 hsq6
  obtain rfl := Eq.symm hf
  clear haq5 hsq5 aq5 wq5
  refine wpList_nil ?_
  replace haq6 := haq6.pick' (L' := [(0, va0), (1, va1), (10, .bool ((p0a.length : Int) != (p1b.length : Int)))]) ⟨rfl, rfl, rfl, trivial⟩
  refine nrm ?_
  rcases two ((p0a.length : Int) != (p1b.length : Int)) with hb1 | hb1
  · replace hm := ifFe hb1 hm
    refine cnd_false (b := (p0a.length : Int) != (p1b.length : Int)) haq6 rfl rfl hb1 ?_
    refine wp_skip ?_
    refine nrm ?_
    refine wp_seq ?_
    refine wp_seq ?_
    refine wp_region_lit ?_
    refine seq_op0 haq6 hsq6 (opT_assign (v := .int .i64 0) rfl rfl) rfl rfl ?_
    rintro u aq7 wq7 hf haq7 hsq7
    obtain rfl := Eq.symm hf
    clear haq6 hsq6 aq6 wq6
    refine wpList_nil ?_
    replace haq7 := haq7.pick' (L' := [(0, va0), (1, va1), (5, .int .i64 0)]) ⟨rfl, rfl, rfl, trivial⟩
    refine nrm ?_
    obtain ⟨o1, hl1, hc1⟩ := bindL_some hm
    refine wp_cut (fun a w => ∃ s4 : Int, o1 = .brk s4 ∧ Agr 27 a [] ∧ St I w0 w [F]) ?_ ?_
    · refine wp_block (wp_loopM (R := Bool) (S := Int) (fun s3 a w => Agr 27 a [(0, va0), (1, va1), (5, .int .i64 s3)] ∧ St I w0 w [F]) hl1 ?_ ?_)
      · exact ⟨haq7.pick' ⟨rfl, rfl, rfl, trivial⟩, St.sel hsq7 1 [0] rfl rfl⟩
      · rintro s3 o2 hm hf1 aq24 wq24 ⟨haq24, hsq24⟩
        unfold m_w_eqEdgeS_l0 at hm
        refine wp_seq ?_
        refine wp_seq ?_
        refine wp_region_lit ?_
        refine seq_op0 haq24 hsq24 (opT_move (v := .int .i64 s3) rfl rfl) rfl rfl ?_
        rintro u aq25 wq25 hf haq25 hsq25
        obtain rfl := Eq.symm hf
        clear haq24 hsq24 aq24 wq24
        refine seq_op0 haq25 hsq25 (opT_move (v := va0) rfl rfl) rfl rfl ?_
        rintro u aq26 wq26 hf haq26 hsq26
        obtain rfl := Eq.symm hf
        clear haq25 hsq25 aq25 wq25
        refine seq_op0 haq26 hsq26 (opT_len_hd (v := va0) (n := p0a.length) (Hd.of_rd ra0) Try.underlying43 rfl rfl) rfl rfl ?_
        rintro u aq27 wq27 hf haq27 hsq27
        obtain rfl := Eq.symm hf
        clear haq26 hsq26 aq26 wq26
        refine seq_op0 haq27 hsq27 (opT_cmp (k := .i64) (m := s3) (n := (p0a.length : Int)) (c := decide (s3 < (p0a.length : Int))) rfl rfl rfl rfl rfl) rfl rfl ?_
        rintro u aq28 wq28 hf haq28 hsq28
        obtain rfl := Eq.symm hf
        clear haq27 hsq27 aq27 wq27
        refine wpList_nil ?_
        replace haq28 := haq28.pick' (L' := [(0, va0), (1, va1), (5, .int .i64 s3), (14, .bool (decide (s3 < (p0a.length : Int))))]) ⟨rfl, rfl, rfl, rfl, trivial⟩
        refine nrm ?_
        rcases two (decide (s3 < (p0a.length : Int))) with hb6 | hb6
        · replace hm := ifFe hb6 hm
          refine cnd_false (b := decide (s3 < (p0a.length : Int))) haq28 rfl rfl hb6 ?_
          refine wp_exit ?_
          refine thenX ?_
          refine thenX ?_
          refine ex_in ?_
          refine nrm ?_
          exact ⟨_, loopBrk hm hf1, ⟨haq28.pick' trivial, St.sel hsq28 1 [0] rfl rfl⟩⟩
        · replace hm := ifTe hb6 hm
          refine cnd_true (b := decide (s3 < (p0a.length : Int))) haq28 rfl rfl hb6 ?_
          refine wp_skip ?_
          refine nrm ?_
          refine wp_seq ?_
          refine wp_block ?_
          refine wp_seq ?_
          obtain ⟨x5, e7, hm⟩ := bind_some hm
          obtain ⟨x6, e8, hm⟩ := bind_some hm
          obtain ⟨r3, e9, hm⟩ := bind_some hm
          refine wp_draw (L := [(0, va0), (1, va1), (5, .int .i64 s3), (14, .bool (decide (s3 < (p0a.length : Int))))]) (C := [F]) { ops := [⟨[], [], [], [0], fun | [xo0] => xo0 = va0 | _ => True, [(0, none)]⟩, ⟨[], [], [], [1], fun | [xo1] => xo1 = .int .i64 s3 | _ => True, [(5, none)]⟩, ⟨[], [], [], [2], fun | [xo2] => xo2 = pt va0 (s3.toNat * 4) | _ => True, [(17, some 0), (18, some 1)]⟩, ⟨[], [], [], [3], fun | [xo3] => xo3 = .agg #[.int .i64 x5.1, .int .i64 x5.2.1, .int .i64 x5.2.2.1, .int .i64 x5.2.2.2] | _ => True, [(19, some 2)]⟩, ⟨[], [], [], [4], fun | [xo4] => xo4 = va1 | _ => True, [(1, none)]⟩, ⟨[], [], [], [5], fun | [xo5] => xo5 = .int .i64 s3 | _ => True, [(5, none)]⟩, ⟨[], [], [], [6], fun | [xo6] => xo6 = pt va1 (s3.toNat * 4) | _ => True, [(21, some 4), (22, some 5)]⟩, ⟨[], [], [], [7], fun | [xo7] => xo7 = .agg #[.int .i64 x6.1, .int .i64 x6.2.1, .int .i64 x6.2.2.1, .int .i64 x6.2.2.2] | _ => True, [(23, some 6)]⟩, ⟨[], [], [], [8], fun | [xo8] => xo8 = .bool r3 | _ => True, [(20, some 3), (24, some 7)]⟩, ⟨[], [], [], [9], fun | [xo9] => xo9 = .bool (!r3) | _ => True, [(25, some 8)]⟩], res := [], base := [], pre := [[], [], [0, 1], [0, 1, 2], [], [], [4, 5], [4, 5, 6], [0, 1, 2, 3, 4, 5, 6, 7], [0, 1, 2, 3, 4, 5, 6, 7, 8]], fin := [(0, none), (1, none), (5, none), (26, some 9)], left := [] } (by kernel_rfl) haq28 hsq28 (perm_sel [0] (m := 1) rfl rfl) (by kernel_rfl) (by kernel_rfl) ?_ ?_
          · exact ⟨Plan.goal_run fun vs hf => ⟨wants_none rfl, OpT.conv (OpT.evs (ev' := evL [(0, va0)]) (opT_move (v := va0) rfl rfl) rfl [.tmp 0] rfl ⟨rfl, trivial⟩) rfl (fun _ h => Eq.trans h rfl) (fun _ => rfl)⟩, Plan.goal_run fun vs hf => ⟨wants_none rfl, OpT.conv (OpT.evs (ev' := evL [(5, .int .i64 s3)]) (opT_move (v := .int .i64 s3) rfl rfl) rfl [.tmp 5] rfl ⟨rfl, trivial⟩) rfl (fun _ h => Eq.trans h rfl) (fun _ => rfl)⟩, Plan.goal_run fun vs hf => ⟨wants_none rfl, OpT.conv (OpT.evs (ev' := evL [(17, va0), (18, .int .i64 s3)]) (opT_index_hd (xs := p0a) (i := s3) (n := 4) (Hd.of_rd ra0) Try.underlying43 ti126 rfl rfl rfl (getI_in e7)) rfl [.tmp 17, .tmp 18] rfl ⟨(hf 0 (mb rfl)), (hf 1 (mb rfl)), trivial⟩) rfl (fun _ h => Eq.trans h rfl) (fun _ => rfl)⟩, Plan.goal_run fun vs hf => ⟨wants_none rfl, OpT.conv (OpT.evs (ev' := evL [(19, pt va0 (s3.toNat * 4))]) (opT_load_el (S := rProd rInt (rProd rInt (rProd rInt rInt))) (xs := p0a) (a := x5) (i := s3) (k := 4) (off := 0) (f := fun (x : Int × Int × Int × Int) => x) ra0 e7 Fld.self ti126 rfl rfl rfl rfl rfl) rfl [.tmp 19] rfl ⟨(hf 2 (mb rfl)), trivial⟩) rfl (fun u h => by obtain ⟨d, hd, h⟩ := h; obtain ⟨_, _, rfl, rfl, ⟨_, _, rfl, rfl, ⟨_, _, rfl, rfl, rfl⟩⟩⟩ := hd; exact h) (fun _ => rfl)⟩, Plan.goal_run fun vs hf => ⟨wants_none rfl, OpT.conv (OpT.evs (ev' := evL [(1, va1)]) (opT_move (v := va1) rfl rfl) rfl [.tmp 1] rfl ⟨rfl, trivial⟩) rfl (fun _ h => Eq.trans h rfl) (fun _ => rfl)⟩, Plan.goal_run fun vs hf => ⟨wants_none rfl, OpT.conv (OpT.evs (ev' := evL [(5, .int .i64 s3)]) (opT_move (v := .int .i64 s3) rfl rfl) rfl [.tmp 5] rfl ⟨rfl, trivial⟩) rfl (fun _ h => Eq.trans h rfl) (fun _ => rfl)⟩, Plan.goal_run fun vs hf => ⟨wants_none rfl, OpT.conv (OpT.evs (ev' := evL [(21, va1), (22, .int .i64 s3)]) (opT_index_hd (xs := p1b) (i := s3) (n := 4) (Hd.of_rd ra1) Try.underlying43 ti126 rfl rfl rfl (getI_in e8)) rfl [.tmp 21, .tmp 22] rfl ⟨(hf 4 (mb rfl)), (hf 5 (mb rfl)), trivial⟩) rfl (fun _ h => Eq.trans h rfl) (fun _ => rfl)⟩, Plan.goal_run fun vs hf => ⟨wants_none rfl, OpT.conv (OpT.evs (ev' := evL [(23, pt va1 (s3.toNat * 4))]) (opT_load_el (S := rProd rInt (rProd rInt (rProd rInt rInt))) (xs := p1b) (a := x6) (i := s3) (k := 4) (off := 0) (f := fun (x : Int × Int × Int × Int) => x) ra1 e8 Fld.self ti126 rfl rfl rfl rfl rfl) rfl [.tmp 23] rfl ⟨(hf 6 (mb rfl)), trivial⟩) rfl (fun u h => by obtain ⟨d, hd, h⟩ := h; obtain ⟨_, _, rfl, rfl, ⟨_, _, rfl, rfl, ⟨_, _, rfl, rfl, rfl⟩⟩⟩ := hd; exact h) (fun _ => rfl)⟩, Plan.goal_run fun vs hf => ⟨wants_none rfl, OpT.conv (OpT.evs (ev' := evL [(20, .agg #[.int .i64 x5.1, .int .i64 x5.2.1, .int .i64 x5.2.2.1, .int .i64 x5.2.2.2]), (24, .agg #[.int .i64 x6.1, .int .i64 x6.2.1, .int .i64 x6.2.2.1, .int .i64 x6.2.2.2])]) (opT_call (args := #[.agg #[.int .i64 x5.1, .int .i64 x5.2.1, .int .i64 x5.2.2.1, .int .i64 x5.2.2.2], .agg #[.int .i64 x6.1, .int .i64 x6.2.1, .int .i64 x6.2.2.1, .int .i64 x6.2.2.2]]) (first := #[]) (captured := #[]) en121 rfl rfl rfl (c_w_eqEdge (x5.1, x5.2.1, x5.2.2.1, x5.2.2.2) (x6.1, x6.2.1, x6.2.2.1, x6.2.2.2) _ e9  )) rfl [.func 121, .tmp 20, .tmp 24] rfl ⟨rfl, (hf 3 (mb rfl)), (hf 7 (mb rfl)), trivial⟩) rfl (fun _ h => h) (fun _ => rfl)⟩, Plan.goal_run fun vs hf => ⟨wants_none rfl, OpT.conv (OpT.evs (ev' := evL [(25, .bool r3)]) (opT_not (b := r3) rfl rfl) rfl [.tmp 25] rfl ⟨(hf 8 (mb rfl)), trivial⟩) rfl (fun _ h => Eq.trans h rfl) (fun _ => rfl)⟩, trivial⟩
          intro vs aq29 wq29 hf haq29 hsq29
          clear haq28 hsq28
          replace haq29 := haq29.pick' (L' := [(0, va0), (1, va1), (5, .int .i64 s3), (26, .bool (!r3))]) ⟨rfl, rfl, rfl, (congrArg some (show _ = _ from (hf 9 (Nat.le_of_ble_eq_true rfl)))), trivial⟩
          replace hsq29 : St I w0 wq29 [F] := hsq29
          clear hf vs
          refine nrm ?_
          rcases two (r3) with hb7 | hb7
          · replace hm := ifFe hb7 hm
            refine cnd_true (b := !r3) haq29 rfl rfl (notT hb7) ?_
            refine wp_seq ?_
            refine wp_region_lit ?_
            refine seq_op0 haq29 hsq29 (opT_assign (v := .bool false) rfl rfl) rfl rfl ?_
            rintro u aq30 wq30 hf haq30 hsq30
            obtain rfl := Eq.symm hf
            clear haq29 hsq29 aq29 wq29
            refine wpList_nil ?_
            replace haq30 := haq30.pick' (L' := [(4, .bool false)]) ⟨rfl, trivial⟩
            refine nrm ?_
            refine wp_ret ?_
            refine blkR ?_
            refine thenR ?_
            refine thenR ?_
            refine blkR ?_
            refine thenR ?_
            refine thenR ?_
            replace hm := loopRet hm hf1 hc1
            obtain rfl := Option.some.inj hm
            exact ret_1 haq30 rfl (res_tmp haq30 rfl) ⟨_, rfl, rfl, _, Hp.le.rfl, St.sel (hsq30) 1 [0] rfl rfl⟩
          · replace hm := ifTe hb7 hm
            refine cnd_false (b := !r3) haq29 rfl rfl (notF hb7) ?_
            refine wp_skip ?_
            refine nrmB ?_
            refine nrm ?_
            refine wp_region_lit ?_
            refine seq_op0 haq29 hsq29 (opT_move (v := .int .i64 s3) rfl rfl) rfl rfl ?_
            rintro u aq31 wq31 hf haq31 hsq31
            obtain rfl := Eq.symm hf
            clear haq29 hsq29 aq29 wq29
            refine seq_op0 haq31 hsq31 (opT_add (m := s3) (n := 1) rfl rfl rfl) rfl rfl ?_
            rintro u aq32 wq32 hf haq32 hsq32
            obtain rfl := Eq.symm hf
            clear haq31 hsq31 aq31 wq31
            refine seq_op0 haq32 hsq32 (opT_assign (v := .int .i64 (IntKind.i64.wrap (s3 + 1))) rfl rfl) rfl rfl ?_
            rintro u aq33 wq33 hf haq33 hsq33
            obtain rfl := Eq.symm hf
            clear haq32 hsq32 aq32 wq32
            refine wpList_nil ?_
            replace haq33 := haq33.pick' (L' := [(0, va0), (1, va1), (5, .int .i64 (IntKind.i64.wrap (s3 + 1)))]) ⟨rfl, rfl, rfl, trivial⟩
            refine nrm ?_
            exact ⟨_, (Option.some.inj hm).symm, ⟨haq33.pick' ⟨rfl, rfl, rfl, trivial⟩, St.sel hsq33 1 [0] rfl rfl⟩⟩
    · rintro aq34 wq34 ⟨s4, ho1, haq34, hsq34⟩
      replace hm := loopOut ho1 hc1
      clear ho1 hc1 hl1
      refine nrm ?_
      refine wp_seq ?_
      refine wp_region_lit ?_
      refine seq_op0 haq34 hsq34 (opT_assign (v := .bool true) rfl rfl) rfl rfl ?_
      rintro u aq35 wq35 hf haq35 hsq35
      obtain rfl := Eq.symm hf
      clear haq34 hsq34 aq34 wq34
      refine wpList_nil ?_
      replace haq35 := haq35.pick' (L' := [(4, .bool true)]) ⟨rfl, trivial⟩
      refine nrm ?_
      refine wp_ret ?_
      obtain rfl := Option.some.inj hm
      exact ret_1 haq35 rfl (res_tmp haq35 rfl) ⟨_, rfl, rfl, _, Hp.le.rfl, St.sel (hsq35) 1 [0] rfl rfl⟩
  · replace hm := ifTe hb1 hm
    refine cnd_true (b := (p0a.length : Int) != (p1b.length : Int)) haq6 rfl rfl hb1 ?_
    refine wp_seq ?_
    refine wp_region_lit ?_
    refine seq_op0 haq6 hsq6 (opT_assign (v := .bool false) rfl rfl) rfl rfl ?_
    rintro u aq36 wq36 hf haq36 hsq36
    obtain rfl := Eq.symm hf
    clear haq6 hsq6 aq6 wq6
    refine wpList_nil ?_
    replace haq36 := haq36.pick' (L' := [(4, .bool false)]) ⟨rfl, trivial⟩
    refine nrm ?_
    refine wp_ret ?_
    refine thenR ?_
    obtain rfl := Option.some.inj hm
    exact ret_1 haq36 rfl (res_tmp haq36 rfl) ⟨_, rfl, rfl, _, Hp.le.rfl, St.sel (hsq36) 1 [0] rfl rfl⟩
set_option maxHeartbeats 8000000 in
theorem c_w_eqSubscriberS (p0a : List (Int × Int × Int)) (p1b : List (Int × Int × Int)) (r : Bool) (hm : m_w_eqSubscriberS p0a p1b = some r) {I : Hp} {w0 : World} (va0 : Value) (va1 : Value) (ra0 : (rSlice 107 (rProd rInt (rProd rInt rInt))).rd I [va0] p0a) (ra1 : (rSlice 107 (rProd rInt (rProd rInt rInt))).rd I [va1] p1b) : Con Try.prog 91 #[va0, va1] I w0 [] (fun v => v = .bool r) (fun v => []) := by
  refine con_of_wp (n := 27) [(0, va0), (1, va1)] Try.func91 rfl rfl (Nat.le_of_ble_eq_true rfl) (args_all ⟨rfl, rfl, trivial⟩) (fun F w a ha hs => ?_) (fun v => trivial)
  unfold m_w_eqSubscriberS at hm
  refine wp_seq ?_
  refine wp_region_lit ?_
  refine seq_op0 ha hs (opT_assign (v := .bool false) rfl rfl) rfl rfl ?_
  rintro u aq1 wq1 hf haq1 hsq1
  obtain rfl := Eq.symm hf
  clear ha hs a w
  refine wpList_nil ?_
  replace haq1 := haq1.pick' (L' := [(0, va0), (1, va1)]) ⟨rfl, rfl, trivial⟩
  refine nrm ?_
  refine wp_seq ?_
  refine wp_seq ?_
  refine wp_region_lit ?_
  refine seq_op0 haq1 hsq1 (opT_move (v := va0) rfl rfl) rfl rfl ?_
  rintro u aq2 wq2 hf haq2 hsq2
  obtain rfl := Eq.symm hf
  clear haq1 hsq1 aq1 wq1
  refine seq_op0 haq2 hsq2 (opT_len_hd (v := va0) (n := p0a.length) (Hd.of_rd ra0) Try.underlying76 rfl rfl) rfl rfl ?_
  rintro u aq3 wq3 hf haq3 hsq3
  obtain rfl := Eq.symm hf
  clear haq2 hsq2 aq2 wq2
  refine seq_op0 haq3 hsq3 (opT_move (v := va1) rfl rfl) rfl rfl ?_
  rintro u aq4 wq4 hf haq4 hsq4
  obtain rfl := Eq.symm hf
  clear haq3 hsq3 aq3 wq3
  refine seq_op0 haq4 hsq4 (opT_len_hd (v := va1) (n := p1b.length) (Hd.of_rd ra1) Try.underlying76 rfl rfl) rfl rfl ?_
  rintro u aq5 wq5 hf haq5 hsq5
  obtain rfl := Eq.symm hf
  clear haq4 hsq4 aq4 wq4
  refine seq_op0 haq5 hsq5 (opT_cmp (k := .i64) (m := (p0a.length : Int)) (n := (p1b.length : Int)) (c := (p0a.length : Int) != (p1b.length : Int)) rfl rfl rfl rfl rfl) rfl rfl ?_
  rintro u aq6 wq6 hf haq6 hsq6
  obtain rfl := Eq.symm hf
  clear haq5 hsq5 aq5 wq5
  refine wpList_nil ?_
  replace haq6 := haq6.pick' (L' := [(0, va0), (1, va1), (10, .bool ((p0a.length : Int) != (p1b.length : Int)))]) ⟨rfl, rfl, rfl, trivial⟩
  refine nrm ?_
  rcases two ((p0a.length : Int) != (p1b.length : Int)) with hb1 | hb1
  · replace hm := ifFe hb1 hm
    refine cnd_false (b := (p0a.length : Int) != (p1b.length : Int)) haq6 rfl rfl hb1 ?_
    refine wp_skip ?_
    refine nrm ?_
    refine wp_seq ?_
    refine wp_seq ?_
    refine wp_region_lit ?_
    refine seq_op0 haq6 hsq6 (opT_assign (v := .int .i64 0) rfl rfl) rfl rfl ?_
    rintro u aq7 wq7 hf haq7 hsq7
    obtain rfl := Eq.symm hf
    clear haq6 hsq6 aq6 wq6
    refine wpList_nil ?_
    replace haq7 := haq7.pick' (L' := [(0, va0), (1, va1), (5, .int .i64 0)]) ⟨rfl, rfl, rfl, trivial⟩
    refine nrm ?_
    obtain ⟨o1, hl1, hc1⟩ := bindL_some hm
    refine wp_cut (fun a w => ∃ s4 : Int, o1 = .brk s4 ∧ Agr 27 a [] ∧ St I w0 w [F]) ?_ ?_
    · refine wp_block (wp_loopM (R := Bool) (S := Int) (fun s3 a w => Agr 27 a [(0, va0), (1, va1), (5, .int .i64 s3)] ∧ St I w0 w [F]) hl1 ?_ ?_)
      · exact ⟨haq7.pick' ⟨rfl, rfl, rfl, trivial⟩, St.sel hsq7 1 [0] rfl rfl⟩
      · rintro s3 o2 hm hf1 aq24 wq24 ⟨haq24, hsq24⟩
        unfold m_w_eqSubscriberS_l0 at hm
        refine wp_seq ?_
        refine wp_seq ?_
        refine wp_region_lit ?_
        refine seq_op0 haq24 hsq24 (opT_move (v := .int .i64 s3) rfl rfl) rfl rfl ?_
        rintro u aq25 wq25 hf haq25 hsq25
        obtain rfl := Eq.symm hf
        clear haq24 hsq24 aq24 wq24
        refine seq_op0 haq25 hsq25 (opT_move (v := va0) rfl rfl) rfl rfl ?_
        rintro u aq26 wq26 hf haq26 hsq26
        obtain rfl := Eq.symm hf
        clear haq25 hsq25 aq25 wq25
        refine seq_op0 haq26 hsq26 (opT_len_hd (v := va0) (n := p0a.length) (Hd.of_rd ra0) Try.underlying76 rfl rfl) rfl rfl ?_
        rintro u aq27 wq27 hf haq27 hsq27
        obtain rfl := Eq.symm hf
        clear haq26 hsq26 aq26 wq26
        refine seq_op0 haq27 hsq27 (opT_cmp (k := .i64) (m := s3) (n := (p0a.length : Int)) (c := decide (s3 < (p0a.length : Int))) rfl rfl rfl rfl rfl) rfl rfl ?_
        rintro u aq28 wq28 hf haq28 hsq28
        obtain rfl := Eq.symm hf
        clear haq27 hsq27 aq27 wq27
        refine wpList_nil ?_
        replace haq28 := haq28.pick' (L' := [(0, va0), (1, va1), (5, .int .i64 s3), (14, .bool (decide (s3 < (p0a.length : Int))))]) ⟨rfl, rfl, rfl, rfl, trivial⟩
        refine nrm ?_
        rcases two (decide (s3 < (p0a.length : Int))) with hb6 | hb6
        · replace hm := ifFe hb6 hm
          refine cnd_false (b := decide (s3 < (p0a.length : Int))) haq28 rfl rfl hb6 ?_
          refine wp_exit ?_
          refine thenX ?_
          refine thenX ?_
          refine ex_in ?_
          refine nrm ?_
          exact ⟨_, loopBrk hm hf1, ⟨haq28.pick' trivial, St.sel hsq28 1 [0] rfl rfl⟩⟩
        · replace hm := ifTe hb6 hm
          refine cnd_true (b := decide (s3 < (p0a.length : Int))) haq28 rfl rfl hb6 ?_
          refine wp_skip ?_
          refine nrm ?_
          refine wp_seq ?_
          refine wp_block ?_
          refine wp_seq ?_
          obtain ⟨x5, e7, hm⟩ := bind_some hm
          obtain ⟨x6, e8, hm⟩ := bind_some hm
          obtain ⟨r3, e9, hm⟩ := bind_some hm
          refine wp_draw (L := [(0, va0), (1, va1), (5, .int .i64 s3), (14, .bool (decide (s3 < (p0a.length : Int))))]) (C := [F]) { ops := [⟨[], [], [], [0], fun | [xo0] => xo0 = va0 | _ => True, [(0, none)]⟩, ⟨[], [], [], [1], fun | [xo1] => xo1 = .int .i64 s3 | _ => True, [(5, none)]⟩, ⟨[], [], [], [2], fun | [xo2] => xo2 = pt va0 (s3.toNat * 3) | _ => True, [(17, some 0), (18, some 1)]⟩, ⟨[], [], [], [3], fun | [xo3] => xo3 = .agg #[.int .i64 x5.1, .int .i64 x5.2.1, .int .i64 x5.2.2] | _ => True, [(19, some 2)]⟩, ⟨[], [], [], [4], fun | [xo4] => xo4 = va1 | _ => True, [(1, none)]⟩, ⟨[], [], [], [5], fun | [xo5] => xo5 = .int .i64 s3 | _ => True, [(5, none)]⟩, ⟨[], [], [], [6], fun | [xo6] => xo6 = pt va1 (s3.toNat * 3) | _ => True, [(21, some 4), (22, some 5)]⟩, ⟨[], [], [], [7], fun | [xo7] => xo7 = .agg #[.int .i64 x6.1, .int .i64 x6.2.1, .int .i64 x6.2.2] | _ => True, [(23, some 6)]⟩, ⟨[], [], [], [8], fun | [xo8] => xo8 = .bool r3 | _ => True, [(20, some 3), (24, some 7)]⟩, ⟨[], [], [], [9], fun | [xo9] => xo9 = .bool (!r3) | _ => True, [(25, some 8)]⟩], res := [], base := [], pre := [[], [], [0, 1], [0, 1, 2], [], [], [4, 5], [4, 5, 6], [0, 1, 2, 3, 4, 5, 6, 7], [0, 1, 2, 3, 4, 5, 6, 7, 8]], fin := [(0, none), (1, none), (5, none), (26, some 9)], left := [] } (by kernel_rfl) haq28 hsq28 (perm_sel [0] (m := 1) rfl rfl) (by kernel_rfl) (by kernel_rfl) ?_ ?_
          · exact ⟨Plan.goal_run fun vs hf => ⟨wants_none rfl, OpT.conv (OpT.evs (ev' := evL [(0, va0)]) (opT_move (v := va0) rfl rfl) rfl [.tmp 0] rfl ⟨rfl, trivial⟩) rfl (fun _ h => Eq.trans h rfl) (fun _ => rfl)⟩, Plan.goal_run fun vs hf => ⟨wants_none rfl, OpT.conv (OpT.evs (ev' := evL [(5, .int .i64 s3)]) (opT_move (v := .int .i64 s3) rfl rfl) rfl [.tmp 5] rfl ⟨rfl, trivial⟩) rfl (fun _ h => Eq.trans h rfl) (fun _ => rfl)⟩, Plan.goal_run fun vs hf => ⟨wants_none rfl, OpT.conv (OpT.evs (ev' := evL [(17, va0), (18, .int .i64 s3)]) (opT_index_hd (xs := p0a) (i := s3) (n := 3) (Hd.of_rd ra0) Try.underlying76 ti107 rfl rfl rfl (getI_in e7)) rfl [.tmp 17, .tmp 18] rfl ⟨(hf 0 (mb rfl)), (hf 1 (mb rfl)), trivial⟩) rfl (fun _ h => Eq.trans h rfl) (fun _ => rfl)⟩, Plan.goal_run fun vs hf => ⟨wants_none rfl, OpT.conv (OpT.evs (ev' := evL [(19, pt va0 (s3.toNat * 3))]) (opT_load_el (S := rProd rInt (rProd rInt rInt)) (xs := p0a) (a := x5) (i := s3) (k := 3) (off := 0) (f := fun (x : Int × Int × Int) => x) ra0 e7 Fld.self ti107 rfl rfl rfl rfl rfl) rfl [.tmp 19] rfl ⟨(hf 2 (mb rfl)), trivial⟩) rfl (fun u h => by obtain ⟨d, hd, h⟩ := h; obtain ⟨_, _, rfl, rfl, ⟨_, _, rfl, rfl, rfl⟩⟩ := hd; exact h) (fun _ => rfl)⟩, Plan.goal_run fun vs hf => ⟨wants_none rfl, OpT.conv (OpT.evs (ev' := evL [(1, va1)]) (opT_move (v := va1) rfl rfl) rfl [.tmp 1] rfl ⟨rfl, trivial⟩) rfl (fun _ h => Eq.trans h rfl) (fun _ => rfl)⟩, Plan.goal_run fun vs hf => ⟨wants_none rfl, OpT.conv (OpT.evs (ev' := evL [(5, .int .i64 s3)]) (opT_move (v := .int .i64 s3) rfl rfl) rfl [.tmp 5] rfl ⟨rfl, trivial⟩) rfl (fun _ h => Eq.trans h rfl) (fun _ => rfl)⟩, Plan.goal_run fun vs hf => ⟨wants_none rfl, OpT.conv (OpT.evs (ev' := evL [(21, va1), (22, .int .i64 s3)]) (opT_index_hd (xs := p1b) (i := s3) (n := 3) (Hd.of_rd ra1) Try.underlying76 ti107 rfl rfl rfl (getI_in e8)) rfl [.tmp 21, .tmp 22] rfl ⟨(hf 4 (mb rfl)), (hf 5 (mb rfl)), trivial⟩) rfl (fun _ h => Eq.trans h rfl) (fun _ => rfl)⟩, Plan.goal_run fun vs hf => ⟨wants_none rfl, OpT.conv (OpT.evs (ev' := evL [(23, pt va1 (s3.toNat * 3))]) (opT_load_el (S := rProd rInt (rProd rInt rInt)) (xs := p1b) (a := x6) (i := s3) (k := 3) (off := 0) (f := fun (x : Int × Int × Int) => x) ra1 e8 Fld.self ti107 rfl rfl rfl rfl rfl) rfl [.tmp 23] rfl ⟨(hf 6 (mb rfl)), trivial⟩) rfl (fun u h => by obtain ⟨d, hd, h⟩ := h; obtain ⟨_, _, rfl, rfl, ⟨_, _, rfl, rfl, rfl⟩⟩ := hd; exact h) (fun _ => rfl)⟩, Plan.goal_run fun vs hf => ⟨wants_none rfl, OpT.conv (OpT.evs (ev' := evL [(20, .agg #[.int .i64 x5.1, .int .i64 x5.2.1, .int .i64 x5.2.2]), (24, .agg #[.int .i64 x6.1, .int .i64 x6.2.1, .int .i64 x6.2.2])]) (opT_call (args := #[.agg #[.int .i64 x5.1, .int .i64 x5.2.1, .int .i64 x5.2.2], .agg #[.int .i64 x6.1, .int .i64 x6.2.1, .int .i64 x6.2.2]]) (first := #[]) (captured := #[]) en145 rfl rfl rfl (c_w_eqSubscriber (x5.1, x5.2.1, x5.2.2) (x6.1, x6.2.1, x6.2.2) _ e9  )) rfl [.func 145, .tmp 20, .tmp 24] rfl ⟨rfl, (hf 3 (mb rfl)), (hf 7 (mb rfl)), trivial⟩) rfl (fun _ h => h) (fun _ => rfl)⟩, Plan.goal_run fun vs hf => ⟨wants_none rfl, OpT.conv (OpT.evs (ev' := evL [(25, .bool r3)]) (opT_not (b := r3) rfl rfl) rfl [.tmp 25] rfl ⟨(hf 8 (mb rfl)), trivial⟩) rfl (fun _ h => Eq.trans h rfl) (fun _ => rfl)⟩, trivial⟩
          intro vs aq29 wq29 hf haq29 hsq29
          clear haq28 hsq28
          replace haq29 := haq29.pick' (L' := [(0, va0), (1, va1), (5, .int .i64 s3), (26, .bool (!r3))]) ⟨rfl, rfl, rfl, (congrArg some (show _ = _ from (hf 9 (Nat.le_of_ble_eq_true rfl)))), trivial⟩
          replace hsq29 : St I w0 wq29 [F] := hsq29
          clear hf vs
          refine nrm ?_
          rcases two (r3) with hb7 | hb7
          · replace hm := ifFe hb7 hm
            refine cnd_true (b := !r3) haq29 rfl rfl (notT hb7) ?_
            refine wp_seq ?_
            refine wp_region_lit ?_
            refine seq_op0 haq29 hsq29 (opT_assign (v := .bool false) rfl rfl) rfl rfl ?_
            rintro u aq30 wq30 hf haq30 hsq30
            obtain rfl := Eq.symm hf
            clear haq29 hsq29 aq29 wq29
            refine wpList_nil ?_
            replace haq30 := haq30.pick' (L' := [(4, .bool false)]) ⟨rfl, trivial⟩
            refine nrm ?_
            refine wp_ret ?_
            refine blkR ?_
            refine thenR ?_
            refine thenR ?_
            refine blkR ?_
            refine thenR ?_
            refine thenR ?_
            replace hm := loopRet hm hf1 hc1
            obtain rfl := Option.some.inj hm
            exact ret_1 haq30 rfl (res_tmp haq30 rfl) ⟨_, rfl, rfl, _, Hp.le.rfl, St.sel (hsq30) 1 [0] rfl rfl⟩
          · replace hm := ifTe hb7 hm
            refine cnd_false (b := !r3) haq29 rfl rfl (notF hb7) ?_
            refine wp_skip ?_
            refine nrmB ?_
            refine nrm ?_
            refine wp_region_lit ?_
            refine seq_op0 haq29 hsq29 (opT_move (v := .int .i64 s3) rfl rfl) rfl rfl ?_
            rintro u aq31 wq31 hf haq31 hsq31
            obtain rfl := Eq.symm hf
            clear haq29 hsq29 aq29 wq29
            refine seq_op0 haq31 hsq31 (opT_add (m := s3) (n := 1) rfl rfl rfl) rfl rfl ?_
            rintro u aq32 wq32 hf haq32 hsq32
            obtain rfl := Eq.symm hf
            clear haq31 hsq31 aq31 wq31
            refine seq_op0 haq32 hsq32 (opT_assign (v := .int .i64 (IntKind.i64.wrap (s3 + 1))) rfl rfl) rfl rfl ?_
            rintro u aq33 wq33 hf haq33 hsq33
            obtain rfl := Eq.symm hf
            clear haq32 hsq32 aq32 wq32
            refine wpList_nil ?_
            replace haq33 := haq33.pick' (L' := [(0, va0), (1, va1), (5, .int .i64 (IntKind.i64.wrap (s3 + 1)))]) ⟨rfl, rfl, rfl, trivial⟩
            refine nrm ?_
            exact ⟨_, (Option.some.inj hm).symm, ⟨haq33.pick' ⟨rfl, rfl, rfl, trivial⟩, St.sel hsq33 1 [0] rfl rfl⟩⟩
    · rintro aq34 wq34 ⟨s4, ho1, haq34, hsq34⟩
      replace hm := loopOut ho1 hc1
      clear ho1 hc1 hl1
      refine nrm ?_
      refine wp_seq ?_
      refine wp_region_lit ?_
      refine seq_op0 haq34 hsq34 (opT_assign (v := .bool true) rfl rfl) rfl rfl ?_
      rintro u aq35 wq35 hf haq35 hsq35
      obtain rfl := Eq.symm hf
      clear haq34 hsq34 aq34 wq34
      refine wpList_nil ?_
      replace haq35 := haq35.pick' (L' := [(4, .bool true)]) ⟨rfl, trivial⟩
      refine nrm ?_
      refine wp_ret ?_
      obtain rfl := Option.some.inj hm
      exact ret_1 haq35 rfl (res_tmp haq35 rfl) ⟨_, rfl, rfl, _, Hp.le.rfl, St.sel (hsq35) 1 [0] rfl rfl⟩
  · replace hm := ifTe hb1 hm
    refine cnd_true (b := (p0a.length : Int) != (p1b.length : Int)) haq6 rfl rfl hb1 ?_
    refine wp_seq ?_
    refine wp_region_lit ?_
    refine seq_op0 haq6 hsq6 (opT_assign (v := .bool false) rfl rfl) rfl rfl ?_
    rintro u aq36 wq36 hf haq36 hsq36
    obtain rfl := Eq.symm hf
    clear haq6 hsq6 aq6 wq6
    refine wpList_nil ?_
    replace haq36 := haq36.pick' (L' := [(4, .bool false)]) ⟨rfl, trivial⟩
    refine nrm ?_
    refine wp_ret ?_
    refine thenR ?_
    obtain rfl := Option.some.inj hm
    exact ret_1 haq36 rfl (res_tmp haq36 rfl) ⟨_, rfl, rfl, _, Hp.le.rfl, St.sel (hsq36) 1 [0] rfl rfl⟩
set_option maxHeartbeats 8000000 in
theorem c_w_toEdgeS (p0a : List (Int × Int × Int × Int)) (r : List (Int × Int × Int × Int)) (hm : m_w_toEdgeS p0a = some r) {I : Hp} {w0 : World} (va0 : Value) (ra0 : (rSlice 128 (rProd rInt (rProd rInt (rProd rInt rInt)))).rd I [va0] p0a) : Con Try.prog 67 #[va0] I w0 [] (fun v => True) (fun v => [Ch.own (rSlice 126 (rProd rInt (rProd rInt (rProd rInt rInt)))) [v] r]) := by
  refine con_of_wp (n := 23) [(0, va0)] Try.func67 rfl rfl (Nat.le_of_ble_eq_true rfl) (args_all ⟨rfl, trivial⟩) (fun F w a ha hs => ?_) (fun v => ⟨dp_own (dp_slice (dp_prod dp_int (dp_prod dp_int (dp_prod dp_int dp_int)))), trivial⟩)
  unfold m_w_toEdgeS at hm
  refine wp_seq ?_
  refine wp_region_lit ?_
  refine seq_op0 ha hs (opT_assign (v := .slice none 0 0) rfl rfl) rfl rfl ?_
  rintro u aq1 wq1 hf haq1 hsq1
  obtain rfl := Eq.symm hf
  clear ha hs a w
  refine wpList_nil ?_
  replace haq1 := haq1.pick' (L' := [(0, va0)]) ⟨rfl, trivial⟩
  refine nrm ?_
  refine wp_seq ?_
  refine wp_region_lit ?_
  refine seq_op0 haq1 hsq1 (opT_move (v := va0) rfl rfl) rfl rfl ?_
  rintro u aq2 wq2 hf haq2 hsq2
  obtain rfl := Eq.symm hf
  clear haq1 hsq1 aq1 wq1
  refine seq_op0 haq2 hsq2 (opT_len_hd (v := va0) (n := p0a.length) (Hd.of_rd ra0) Try.underlying35 rfl rfl) rfl rfl ?_
  rintro u aq3 wq3 hf haq3 hsq3
  obtain rfl := Eq.symm hf
  clear haq2 hsq2 aq2 wq2
  obtain ⟨x1, hk1, hm⟩ := bind_some hm
  refine seq_op haq3 hsq3 rfl (opT_mk (E := 126) (R := rProd rInt (rProd rInt (rProd rInt rInt))) (zv := .agg #[.int .i64 0, .int .i64 0, .int .i64 0, .int .i64 0]) (z := ((0, 0, 0, 0) : Int × Int × Int × Int)) (zro_prod (c := [.int .i64 0]) (d := [.int .i64 0, .int .i64 0, .int .i64 0]) zro_flat (zro_prod (c := [.int .i64 0]) (d := [.int .i64 0, .int .i64 0]) zro_flat (zro_prod (c := [.int .i64 0]) (d := [.int .i64 0]) zro_flat zro_flat))) Try.underlying43 tz126 rfl rfl (by decide) (by decide) rfl rfl hk1) (List.Perm.refl _) rfl ?_
  rintro v1 aq4 wq4 - haq4 (hsq4 : St I w0 wq4 [Ch.own (rSlice 126 (rProd rInt (rProd rInt (rProd rInt rInt)))) [v1] x1, F])
  clear haq3 hsq3 aq3 wq3
  refine seq_op0 haq4 hsq4 (opT_assign (v := v1) rfl rfl) rfl rfl ?_
  rintro u aq5 wq5 hf haq5 hsq5
  obtain rfl := Eq.symm hf
  clear haq4 hsq4 aq4 wq4
  refine wpList_nil ?_
  replace haq5 := haq5.pick' (L' := [(0, va0), (3, v1)]) ⟨rfl, rfl, trivial⟩
  refine nrm ?_
  refine wp_seq ?_
  refine wp_seq ?_
  refine wp_region_lit ?_
  refine seq_op0 haq5 hsq5 (opT_assign (v := .int .i64 0) rfl rfl) rfl rfl ?_
  rintro u aq6 wq6 hf haq6 hsq6
  obtain rfl := Eq.symm hf
  clear haq5 hsq5 aq5 wq5
  refine wpList_nil ?_
  replace haq6 := haq6.pick' (L' := [(0, va0), (3, v1), (4, .int .i64 0)]) ⟨rfl, rfl, rfl, trivial⟩
  refine nrm ?_
  obtain ⟨o1, hl1, hc1⟩ := bindL_some hm
  refine wp_cut (fun a w => ∃ s4 : (List (Int × Int × Int × Int)) × Int, o1 = .brk s4 ∧ ∃ v3 : Value, Agr 23 a [(3, v3)] ∧ St I w0 w [Ch.own (rSlice 126 (rProd rInt (rProd rInt (rProd rInt rInt)))) [v3] s4.1, F]) ?_ ?_
  · refine wp_block (wp_loopM (R := List (Int × Int × Int × Int)) (S := (List (Int × Int × Int × Int)) × Int) (fun s3 a w => ∃ v4 : Value, Agr 23 a [(0, va0), (3, v4), (4, .int .i64 s3.2)] ∧ St I w0 w [Ch.own (rSlice 126 (rProd rInt (rProd rInt (rProd rInt rInt)))) [v4] s3.1, F]) hl1 ?_ ?_)
    · exact ⟨v1, haq6.pick' ⟨rfl, rfl, rfl, trivial⟩, St.sel hsq6 2 [0, 1] rfl rfl⟩
    · rintro s3 o2 hm hf1 aq39 wq39 ⟨v4, haq39, hsq39⟩
      unfold m_w_toEdgeS_l0 at hm
      refine wp_seq ?_
      refine wp_seq ?_
      refine wp_region_lit ?_
      refine seq_op0 haq39 hsq39 (opT_move (v := .int .i64 s3.2) rfl rfl) rfl rfl ?_
      rintro u aq40 wq40 hf haq40 hsq40
      obtain rfl := Eq.symm hf
      clear haq39 hsq39 aq39 wq39
      refine seq_op0 haq40 hsq40 (opT_move (v := va0) rfl rfl) rfl rfl ?_
      rintro u aq41 wq41 hf haq41 hsq41
      obtain rfl := Eq.symm hf
      clear haq40 hsq40 aq40 wq40
      refine seq_op0 haq41 hsq41 (opT_len_hd (v := va0) (n := p0a.length) (Hd.of_rd ra0) Try.underlying35 rfl rfl) rfl rfl ?_
      rintro u aq42 wq42 hf haq42 hsq42
      obtain rfl := Eq.symm hf
      clear haq41 hsq41 aq41 wq41
      refine seq_op0 haq42 hsq42 (opT_cmp (k := .i64) (m := s3.2) (n := (p0a.length : Int)) (c := decide (s3.2 < (p0a.length : Int))) rfl rfl rfl rfl rfl) rfl rfl ?_
      rintro u aq43 wq43 hf haq43 hsq43
      obtain rfl := Eq.symm hf
      clear haq42 hsq42 aq42 wq42
      refine wpList_nil ?_
      replace haq43 := haq43.pick' (L' := [(0, va0), (3, v4), (4, .int .i64 s3.2), (11, .bool (decide (s3.2 < (p0a.length : Int))))]) ⟨rfl, rfl, rfl, rfl, trivial⟩
      refine nrm ?_
      rcases two (decide (s3.2 < (p0a.length : Int))) with hb3 | hb3
      · replace hm := ifFe hb3 hm
        refine cnd_false (b := decide (s3.2 < (p0a.length : Int))) haq43 rfl rfl hb3 ?_
        refine wp_exit ?_
        refine thenX ?_
        refine thenX ?_
        refine ex_in ?_
        refine nrm ?_
        exact ⟨_, loopBrk hm hf1, ⟨v4, haq43.pick' ⟨rfl, trivial⟩, St.sel hsq43 2 [0, 1] rfl rfl⟩⟩
      · replace hm := ifTe hb3 hm
        refine cnd_true (b := decide (s3.2 < (p0a.length : Int))) haq43 rfl rfl hb3 ?_
        refine wp_skip ?_
        refine nrm ?_
        refine wp_seq ?_
        refine wp_block ?_
        refine wp_region_lit ?_
        refine seq_op0 haq43 hsq43 (opT_move (v := v4) rfl rfl) rfl rfl ?_
        rintro u aq44 wq44 hf haq44 hsq44
        obtain rfl := Eq.symm hf
        clear haq43 hsq43 aq43 wq43
        refine seq_op0 haq44 hsq44 (opT_move (v := .int .i64 s3.2) rfl rfl) rfl rfl ?_
        rintro u aq45 wq45 hf haq45 hsq45
        obtain rfl := Eq.symm hf
        clear haq44 hsq44 aq44 wq44
        refine seq_op0 haq45 hsq45 (opT_move (v := va0) rfl rfl) rfl rfl ?_
        rintro u aq46 wq46 hf haq46 hsq46
        obtain rfl := Eq.symm hf
        clear haq45 hsq45 aq45 wq45
        refine seq_op0 haq46 hsq46 (opT_move (v := .int .i64 s3.2) rfl rfl) rfl rfl ?_
        rintro u aq47 wq47 hf haq47 hsq47
        obtain rfl := Eq.symm hf
        clear haq46 hsq46 aq46 wq46
        obtain ⟨x6, e7, hm⟩ := bind_some hm
        refine seq_op0 haq47 hsq47 (opT_index_hd (xs := p0a) (i := s3.2) (n := 4) (Hd.of_rd ra0) Try.underlying35 ti128 rfl rfl rfl (getI_in e7)) rfl rfl ?_
        rintro u aq48 wq48 hf haq48 hsq48
        obtain rfl := Eq.symm hf
        clear haq47 hsq47 aq47 wq47
        refine seq_op0 haq48 hsq48 (opT_load_el (S := rProd rInt (rProd rInt (rProd rInt rInt))) (xs := p0a) (a := x6) (i := s3.2) (k := 4) (off := 0) (f := fun (x : Int × Int × Int × Int) => x) ra0 e7 Fld.self ti128 rfl rfl rfl rfl rfl) rfl rfl ?_
        rintro u aq49 wq49 ⟨d, hd, hf⟩ haq49 hsq49
        obtain ⟨_, _, rfl, rfl, ⟨_, _, rfl, rfl, ⟨_, _, rfl, rfl, rfl⟩⟩⟩ := hd
        obtain rfl : u = .agg #[.int .i64 x6.1, .int .i64 x6.2.1, .int .i64 x6.2.2.1, .int .i64 x6.2.2.2] := hf
        clear haq48 hsq48 aq48 wq48
        obtain ⟨r3, e8, hm⟩ := bind_some hm
        refine seq_op0 haq49 hsq49 (opT_call (args := #[.agg #[.int .i64 x6.1, .int .i64 x6.2.1, .int .i64 x6.2.2.1, .int .i64 x6.2.2.2]]) (first := #[]) (captured := #[]) en117 rfl rfl rfl (c_w_toEdge (x6.1, x6.2.1, x6.2.2.1, x6.2.2.2) _ e8  )) rfl rfl ?_
        rintro u aq50 wq50 hf haq50 hsq50
        obtain rfl := Eq.symm hf
        clear haq49 hsq49 aq49 wq49
        obtain ⟨x7, e9, hm⟩ := bind_some hm
        refine seq_op0 haq50 hsq50 (opT_index_hd (xs := s3.1) (i := s3.2) (n := 4) (St.hd hsq50 0 rfl).1 Try.underlying43 ti126 rfl rfl rfl (getI_in e9)) rfl rfl ?_
        rintro u aq51 wq51 hf haq51 hsq51
        obtain rfl := Eq.symm hf
        clear haq50 hsq50 aq50 wq50
        refine seq_op haq51 hsq51 rfl (opT_store_el (E := 126) (R := rProd rInt (rProd rInt (rProd rInt rInt))) (S := rProd rInt (rProd rInt (rProd rInt rInt))) (xs := s3.1) (a := x7) (b := (r3.1, r3.2.1, r3.2.2.1, r3.2.2.2)) (i := s3.2) (k := 4) (off := 0) (f := fun x y => y) (v := v4) (d := [.int .i64 r3.1, .int .i64 r3.2.1, .int .i64 r3.2.2.1, .int .i64 r3.2.2.2]) (u := .agg #[.int .i64 r3.1, .int .i64 r3.2.1, .int .i64 r3.2.2.1, .int .i64 r3.2.2.2]) (sh_prod sh_int (sh_prod sh_int (sh_prod sh_int sh_int))) (cpy_prod cpy_int (cpy_prod cpy_int (cpy_prod cpy_int cpy_int))) e9 Upd.self ti126 rfl rfl rfl rfl (allC rfl (allC rfl (allC rfl (allC rfl allN)))) rfl rfl (by decide) ⟨_, _, rfl, rfl, ⟨_, _, rfl, rfl, ⟨_, _, rfl, rfl, rfl⟩⟩⟩) (perm_front (i := 0) rfl) rfl ?_
        rintro _ aq52 wq52 - haq52 (hsq52 : St I w0 wq52 [Ch.own (rSlice 126 (rProd rInt (rProd rInt (rProd rInt rInt)))) [v4] (s3.1.set s3.2.toNat (r3.1, r3.2.1, r3.2.2.1, r3.2.2.2)), F])
        clear haq51 hsq51 aq51 wq51
        refine wpList_nil ?_
        replace haq52 := haq52.pick' (L' := [(0, va0), (3, v4), (4, .int .i64 s3.2)]) ⟨rfl, rfl, rfl, trivial⟩
        refine nrmB ?_
        refine nrm ?_
        refine wp_region_lit ?_
        refine seq_op0 haq52 hsq52 (opT_move (v := .int .i64 s3.2) rfl rfl) rfl rfl ?_
        rintro u aq53 wq53 hf haq53 hsq53
        obtain rfl := Eq.symm hf
        clear haq52 hsq52 aq52 wq52
        refine seq_op0 haq53 hsq53 (opT_add (m := s3.2) (n := 1) rfl rfl rfl) rfl rfl ?_
        rintro u aq54 wq54 hf haq54 hsq54
        obtain rfl := Eq.symm hf
        clear haq53 hsq53 aq53 wq53
        refine seq_op0 haq54 hsq54 (opT_assign (v := .int .i64 (IntKind.i64.wrap (s3.2 + 1))) rfl rfl) rfl rfl ?_
        rintro u aq55 wq55 hf haq55 hsq55
        obtain rfl := Eq.symm hf
        clear haq54 hsq54 aq54 wq54
        refine wpList_nil ?_
        replace haq55 := haq55.pick' (L' := [(0, va0), (3, v4), (4, .int .i64 (IntKind.i64.wrap (s3.2 + 1)))]) ⟨rfl, rfl, rfl, trivial⟩
        refine nrm ?_
        exact ⟨_, (Option.some.inj hm).symm, ⟨v4, haq55.pick' ⟨rfl, rfl, rfl, trivial⟩, St.sel hsq55 2 [0, 1] rfl rfl⟩⟩
  · rintro aq56 wq56 ⟨s4, ho1, v3, haq56, hsq56⟩
    replace hm := loopOut ho1 hc1
    clear ho1 hc1 hl1
    refine nrm ?_
    refine wp_seq ?_
    refine wp_region_lit ?_
    refine seq_op0 haq56 hsq56 (opT_move (v := v3) rfl rfl) rfl rfl ?_
    rintro u aq57 wq57 hf haq57 hsq57
    obtain rfl := Eq.symm hf
    clear haq56 hsq56 aq56 wq56
    refine seq_op0 haq57 hsq57 (opT_assign (v := v3) rfl rfl) rfl rfl ?_
    rintro u aq58 wq58 hf haq58 hsq58
    obtain rfl := Eq.symm hf
    clear haq57 hsq57 aq57 wq57
    refine wpList_nil ?_
    replace haq58 := haq58.pick' (L' := [(2, v3)]) ⟨rfl, trivial⟩
    refine nrm ?_
    refine wp_ret ?_
    obtain rfl := Option.some.inj hm
    exact ret_1 haq58 rfl (res_tmp haq58 rfl) ⟨_, rfl, trivial, _, Hp.le.rfl, St.sel (hsq58) 2 [0, 1] rfl rfl⟩
set_option maxHeartbeats 8000000 in
theorem c_i_EqualGraphs (p0a : (List Int) × (List (Int × Int × Int × Int))) (p1b : (List Int) × (List (Int × Int × Int × Int))) (r : Bool) (hm : m_i_EqualGraphs p0a p1b = some r) {I : Hp} {w0 : World} (va0 : Value) (va1 : Value) (va2 : Value) (va3 : Value) (ra0 : (rSlice 3 rInt).rd I [va0] p0a.1) (ra1 : (rSlice 126 (rProd rInt (rProd rInt (rProd rInt rInt)))).rd I [va1] p0a.2) (ra2 : (rSlice 3 rInt).rd I [va2] p1b.1) (ra3 : (rSlice 126 (rProd rInt (rProd rInt (rProd rInt rInt)))).rd I [va3] p1b.2) : Con Try.prog 138 #[.agg #[va0, va1], .agg #[va2, va3]] I w0 [] (fun v => v = .bool r) (fun v => []) := by
  refine con_of_wp (n := 17) [(0, .agg #[va0, va1]), (1, .agg #[va2, va3])] Try.func138 rfl rfl (Nat.le_of_ble_eq_true rfl) (args_all ⟨rfl, rfl, trivial⟩) (fun F w a ha hs => ?_) (fun v => trivial)
  unfold m_i_EqualGraphs at hm
  refine wp_seq ?_
  refine wp_region_lit ?_
  refine seq_op ha hs rfl (opT_box (u := .agg #[va0, va1]) (l := [va0, va1]) rfl rfl rfl) (List.Perm.refl _) rfl ?_
  rintro _ aq1 wq1 ⟨g1, rfl⟩ haq1 (hsq1 : St I w0 wq1 [Ch.blk g1 [va0, va1] 45, F])
  clear ha hs a w
  refine seq_op haq1 hsq1 rfl (opT_box (u := .agg #[va2, va3]) (l := [va2, va3]) rfl rfl rfl) (List.Perm.refl _) rfl ?_
  rintro _ aq2 wq2 ⟨g2, rfl⟩ haq2 (hsq2 : St I w0 wq2 [Ch.blk g2 [va2, va3] 45, Ch.blk g1 [va0, va1] 45, F])
  clear haq1 hsq1 aq1 wq1
  refine seq_op0 haq2 hsq2 (opT_assign (v := .bool false) rfl rfl) rfl rfl ?_
  rintro u aq3 wq3 hf haq3 hsq3
  obtain rfl := Eq.symm hf
  clear haq2 hsq2 aq2 wq2
  refine wpList_nil ?_
  replace haq3 := haq3.pick' (L' := [(2, .pointer (some ⟨g1, 0, none⟩)), (3, .pointer (some ⟨g2, 0, none⟩))]) ⟨rfl, rfl, trivial⟩
  refine nrm ?_
  refine wp_seq ?_
  refine wp_region_lit ?_
  refine seq_op0 haq3 hsq3 (opT_field_addr (g := g1) (b := 0) tf45_0 rfl rfl) rfl rfl ?_
  rintro u aq4 wq4 hf haq4 hsq4
  obtain rfl := Eq.symm hf
  clear haq3 hsq3 aq3 wq3
  refine seq_op haq4 hsq4 rfl (opT_load_blk (g := g1) (off := 0) (E := 45) (l := [va0, va1]) (d := [va0]) (u := va0) ti34 rfl rfl rfl rfl rfl rfl) (perm_front (i := 1) rfl) rfl ?_
  rintro u aq5 wq5 hf haq5 (hsq5 : St I w0 wq5 [Ch.blk g1 [va0, va1] 45, Ch.blk g2 [va2, va3] 45, F])
  obtain rfl := Eq.symm hf
  clear haq4 hsq4 aq4 wq4
  refine seq_op0 haq5 hsq5 (opT_field_addr (g := g2) (b := 0) tf45_0 rfl rfl) rfl rfl ?_
  rintro u aq6 wq6 hf haq6 hsq6
  obtain rfl := Eq.symm hf
  clear haq5 hsq5 aq5 wq5
  refine seq_op haq6 hsq6 rfl (opT_load_blk (g := g2) (off := 0) (E := 45) (l := [va2, va3]) (d := [va2]) (u := va2) ti34 rfl rfl rfl rfl rfl rfl) (perm_front (i := 1) rfl) rfl ?_
  rintro u aq7 wq7 hf haq7 (hsq7 : St I w0 wq7 [Ch.blk g2 [va2, va3] 45, Ch.blk g1 [va0, va1] 45, F])
  obtain rfl := Eq.symm hf
  clear haq6 hsq6 aq6 wq6
  obtain ⟨r1, e1, hm⟩ := bind_some hm
  refine seq_op0 haq7 hsq7 (opT_call (args := #[va0, va2]) (first := #[]) (captured := #[]) en109 rfl rfl rfl (c_g_slices_Equal_S_int_int p0a.1 p1b.1 _ e1 va0 va2 ra0 ra2)) rfl rfl ?_
  rintro u aq8 wq8 hf haq8 hsq8
  obtain rfl := Eq.symm hf
  clear haq7 hsq7 aq7 wq7
  refine seq_op0 haq8 hsq8 (opT_move (v := .bool r1) rfl rfl) rfl rfl ?_
  rintro u aq9 wq9 hf haq9 hsq9
  obtain rfl := Eq.symm hf
  clear haq8 hsq8 aq8 wq8
  rcases two (r1) with hb1 | hb1
  · replace hm := ifFe hb1 hm
    refine seq_skip (g := 5) (d := 10) (want := true) (b := r1) haq9 hsq9 rfl rfl rfl hb1 rfl ?_
    intro aq10 haq10
    refine seq_skip (g := 5) (d := 10) (want := true) (b := r1) haq10 hsq9 rfl rfl rfl hb1 rfl ?_
    intro aq11 haq11
    refine seq_skip (g := 5) (d := 10) (want := true) (b := r1) haq11 hsq9 rfl rfl rfl hb1 rfl ?_
    intro aq12 haq12
    refine seq_skip (g := 5) (d := 10) (want := true) (b := r1) haq12 hsq9 rfl rfl rfl hb1 rfl ?_
    intro aq13 haq13
    refine seq_skip (g := 5) (d := 10) (want := true) (b := r1) haq13 hsq9 rfl rfl rfl hb1 rfl ?_
    intro aq14 haq14
    refine seq_op0 haq14 hsq9 (opT_pick (b := r1) (v := .bool false) rfl rfl (ifF hb1)) rfl rfl ?_
    rintro u aq15 wq15 hf haq15 hsq15
    obtain rfl := Eq.symm hf
    clear haq14 hsq9 aq14 wq9
    refine seq_op0 haq15 hsq15 (opT_assign (v := .bool false) rfl rfl) rfl rfl ?_
    rintro u aq16 wq16 hf haq16 hsq16
    obtain rfl := Eq.symm hf
    clear haq15 hsq15 aq15 wq15
    refine wpList_nil ?_
    replace haq16 := haq16.pick' (L' := [(4, .bool false)]) ⟨rfl, trivial⟩
    refine nrm ?_
    refine wp_ret ?_
    obtain rfl := Option.some.inj hm
    exact ret_1 haq16 rfl (res_tmp haq16 rfl) ⟨_, rfl, rfl, _, Hp.le.rfl, St.sel (hsq16) 3 [2] rfl rfl⟩
  · replace hm := ifTe hb1 hm
    refine seq_op_g0 (g := 5) (d := 10) (want := true) (b := r1) haq9 hsq9 rfl rfl rfl hb1 (opT_field_addr (g := g1) (b := 0) tf45_1 rfl rfl) rfl ?_
    rintro u aq17 wq17 hf haq17 hsq17
    obtain rfl := Eq.symm hf
    clear haq9 hsq9 aq9 wq9
    refine seq_op_g (g := 5) (d := 10) (want := true) (b := r1) haq17 hsq17 rfl rfl rfl hb1 (opT_load_blk (g := g1) (off := 1) (E := 45) (l := [va0, va1]) (d := [va1]) (u := va1) ti43 rfl rfl rfl rfl rfl rfl) (perm_front (i := 1) rfl) rfl ?_
    rintro u aq18 wq18 hf haq18 (hsq18 : St I w0 wq18 [Ch.blk g1 [va0, va1] 45, Ch.blk g2 [va2, va3] 45, F])
    obtain rfl := Eq.symm hf
    clear haq17 hsq17 aq17 wq17
    refine seq_op_g0 (g := 5) (d := 10) (want := true) (b := r1) haq18 hsq18 rfl rfl rfl hb1 (opT_field_addr (g := g2) (b := 0) tf45_1 rfl rfl) rfl ?_
    rintro u aq19 wq19 hf haq19 hsq19
    obtain rfl := Eq.symm hf
    clear haq18 hsq18 aq18 wq18
    refine seq_op_g (g := 5) (d := 10) (want := true) (b := r1) haq19 hsq19 rfl rfl rfl hb1 (opT_load_blk (g := g2) (off := 1) (E := 45) (l := [va2, va3]) (d := [va3]) (u := va3) ti43 rfl rfl rfl rfl rfl rfl) (perm_front (i := 1) rfl) rfl ?_
    rintro u aq20 wq20 hf haq20 (hsq20 : St I w0 wq20 [Ch.blk g2 [va2, va3] 45, Ch.blk g1 [va0, va1] 45, F])
    obtain rfl := Eq.symm hf
    clear haq19 hsq19 aq19 wq19
    obtain ⟨r2, e2, hm⟩ := bind_some hm
    refine seq_op_g0 (g := 5) (d := 10) (want := true) (b := r1) haq20 hsq20 rfl rfl rfl hb1 (opT_call (args := #[va1, va3]) (first := #[]) (captured := #[]) en168 rfl rfl rfl (c_g_slices_Equal_S_Edge_Edge p0a.2 p1b.2 _ e2 va1 va3 ra1 ra3)) rfl ?_
    rintro u aq21 wq21 hf haq21 hsq21
    obtain rfl := Eq.symm hf
    clear haq20 hsq20 aq20 wq20
    refine seq_op0 haq21 hsq21 (opT_pick (b := r1) (v := .bool r2) rfl rfl (ifT hb1)) rfl rfl ?_
    rintro u aq22 wq22 hf haq22 hsq22
    obtain rfl := Eq.symm hf
    clear haq21 hsq21 aq21 wq21
    refine seq_op0 haq22 hsq22 (opT_assign (v := .bool r2) rfl rfl) rfl rfl ?_
    rintro u aq23 wq23 hf haq23 hsq23
    obtain rfl := Eq.symm hf
    clear haq22 hsq22 aq22 wq22
    refine wpList_nil ?_
    replace haq23 := haq23.pick' (L' := [(4, .bool r2)]) ⟨rfl, trivial⟩
    refine nrm ?_
    refine wp_ret ?_
    obtain rfl := Option.some.inj hm
    exact ret_1 haq23 rfl (res_tmp haq23 rfl) ⟨_, rfl, rfl, _, Hp.le.rfl, St.sel (hsq23) 3 [2] rfl rfl⟩
set_option maxHeartbeats 8000000 in
theorem c_i_EqualExprs (p0a : (List (Int × Int × Int × Int))) (p1b : (List (Int × Int × Int × Int))) (r : Bool) (hm : m_i_EqualExprs p0a p1b = some r) {I : Hp} {w0 : World} (va0 : Value) (va1 : Value) (ra0 : (rSlice 197 (rProd rInt (rProd rInt (rProd rInt rInt)))).rd I [va0] p0a) (ra1 : (rSlice 197 (rProd rInt (rProd rInt (rProd rInt rInt)))).rd I [va1] p1b) : Con Try.prog 169 #[.agg #[va0], .agg #[va1]] I w0 [] (fun v => v = .bool r) (fun v => []) := by
  refine con_of_wp (n := 10) [(0, .agg #[va0]), (1, .agg #[va1])] Try.func169 rfl rfl (Nat.le_of_ble_eq_true rfl) (args_all ⟨rfl, rfl, trivial⟩) (fun F w a ha hs => ?_) (fun v => trivial)
  unfold m_i_EqualExprs at hm
  refine wp_seq ?_
  refine wp_region_lit ?_
  refine seq_op ha hs rfl (opT_box (u := .agg #[va0]) (l := [va0]) rfl rfl rfl) (List.Perm.refl _) rfl ?_
  rintro _ aq1 wq1 ⟨g1, rfl⟩ haq1 (hsq1 : St I w0 wq1 [Ch.blk g1 [va0] 145, F])
  clear ha hs a w
  refine seq_op haq1 hsq1 rfl (opT_box (u := .agg #[va1]) (l := [va1]) rfl rfl rfl) (List.Perm.refl _) rfl ?_
  rintro _ aq2 wq2 ⟨g2, rfl⟩ haq2 (hsq2 : St I w0 wq2 [Ch.blk g2 [va1] 145, Ch.blk g1 [va0] 145, F])
  clear haq1 hsq1 aq1 wq1
  refine seq_op0 haq2 hsq2 (opT_assign (v := .bool false) rfl rfl) rfl rfl ?_
  rintro u aq3 wq3 hf haq3 hsq3
  obtain rfl := Eq.symm hf
  clear haq2 hsq2 aq2 wq2
  refine wpList_nil ?_
  replace haq3 := haq3.pick' (L' := [(2, .pointer (some ⟨g1, 0, none⟩)), (3, .pointer (some ⟨g2, 0, none⟩))]) ⟨rfl, rfl, trivial⟩
  refine nrm ?_
  refine wp_seq ?_
  refine wp_region_lit ?_
  refine seq_op0 haq3 hsq3 (opT_field_addr (g := g1) (b := 0) tf145_0 rfl rfl) rfl rfl ?_
  rintro u aq4 wq4 hf haq4 hsq4
  obtain rfl := Eq.symm hf
  clear haq3 hsq3 aq3 wq3
  refine seq_op haq4 hsq4 rfl (opT_load_blk (g := g1) (off := 0) (E := 145) (l := [va0]) (d := [va0]) (u := va0) ti143 rfl rfl rfl rfl rfl rfl) (perm_front (i := 1) rfl) rfl ?_
  rintro u aq5 wq5 hf haq5 (hsq5 : St I w0 wq5 [Ch.blk g1 [va0] 145, Ch.blk g2 [va1] 145, F])
  obtain rfl := Eq.symm hf
  clear haq4 hsq4 aq4 wq4
  refine seq_op0 haq5 hsq5 (opT_field_addr (g := g2) (b := 0) tf145_0 rfl rfl) rfl rfl ?_
  rintro u aq6 wq6 hf haq6 hsq6
  obtain rfl := Eq.symm hf
  clear haq5 hsq5 aq5 wq5
  refine seq_op haq6 hsq6 rfl (opT_load_blk (g := g2) (off := 0) (E := 145) (l := [va1]) (d := [va1]) (u := va1) ti143 rfl rfl rfl rfl rfl rfl) (perm_front (i := 1) rfl) rfl ?_
  rintro u aq7 wq7 hf haq7 (hsq7 : St I w0 wq7 [Ch.blk g2 [va1] 145, Ch.blk g1 [va0] 145, F])
  obtain rfl := Eq.symm hf
  clear haq6 hsq6 aq6 wq6
  obtain ⟨r1, e1, hm⟩ := bind_some hm
  refine seq_op0 haq7 hsq7 (opT_call (args := #[va0, va1]) (first := #[]) (captured := #[]) en185 rfl rfl rfl (c_g_slices_Equal_S_Token_Token p0a p1b _ e1 va0 va1 ra0 ra1)) rfl rfl ?_
  rintro u aq8 wq8 hf haq8 hsq8
  obtain rfl := Eq.symm hf
  clear haq7 hsq7 aq7 wq7
  refine seq_op0 haq8 hsq8 (opT_assign (v := .bool r1) rfl rfl) rfl rfl ?_
  rintro u aq9 wq9 hf haq9 hsq9
  obtain rfl := Eq.symm hf
  clear haq8 hsq8 aq8 wq8
  refine wpList_nil ?_
  replace haq9 := haq9.pick' (L' := [(4, .bool r1)]) ⟨rfl, trivial⟩
  refine nrm ?_
  refine wp_ret ?_
  obtain rfl := Option.some.inj hm
  exact ret_1 haq9 rfl (res_tmp haq9 rfl) ⟨_, rfl, rfl, _, Hp.le.rfl, St.sel (hsq9) 3 [2] rfl rfl⟩
end Go.Proofs.Ytcihbmdppgpmjaa.D
