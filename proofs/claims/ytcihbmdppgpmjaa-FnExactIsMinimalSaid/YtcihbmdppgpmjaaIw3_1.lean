/- Printed by dec.py: models of functions and the walks that show them. -/
import Derived.Test.YtcihbmdppgpmjaaIw2_1
set_option linter.unusedVariables false
set_option linter.unusedSimpArgs false
set_option linter.unnecessarySimpa false
set_option maxRecDepth 100000
namespace Go.Proofs.Ytcihbmdppgpmjaa.D
open Go.RowKit
set_option maxHeartbeats 8000000 in
theorem c_i_Automaton_minimize_3 (p0c : Int) (p1letter : Int) (q0 : Int × (List Bool) × (List (List Int))) (q1 : Int → Option Int) (q2 : List Int) (r : Int × Bool) (hm : m_i_Automaton_minimize_3 p0c p1letter q0 q1 q2 = some r) {I : Hp} {w0 : World} (g0_0 : Nat) (va1 : Value) (va2 : Value) (g0_1 : Nat) (va4 : Value) (g0_2 : Nat) (va6 : Value) (rb0 : I g0_0 = some (.cells #[.int .i64 q0.1, va1, va2] 27 (0, 0))) (ra1 : (rSlice 4 rBool).rd I [va1] q0.2.1) (ra2 : (rSlice 34 (rSlice 3 rInt)).rd I [va2] q0.2.2) (rb1 : I g0_1 = some (.cells #[va4] 122 (0, 0))) (ra4 : fn122 w0 I va4 q1) (rb2 : I g0_2 = some (.cells #[va6] 34 (0, 0))) (ra6 : (rSlice 3 rInt).rd I [va6] q2) : Con Try.prog 114 #[.int .i64 p0c, .int .i64 p1letter, .pointer (some ⟨g0_0, 0, none⟩), .pointer (some ⟨g0_1, 0, none⟩), .pointer (some ⟨g0_2, 0, none⟩)] I w0 [] (fun v => v = .tuple #[.int .i64 r.1, .bool r.2]) (fun v => []) := by
  refine con_of_wp (n := 29) [(0, .int .i64 p0c), (1, .int .i64 p1letter), (2, .pointer (some ⟨g0_0, 0, none⟩)), (3, .pointer (some ⟨g0_1, 0, none⟩)), (4, .pointer (some ⟨g0_2, 0, none⟩))] Try.func114 rfl rfl (Nat.le_of_ble_eq_true rfl) (args_all ⟨rfl, rfl, rfl, rfl, rfl, trivial⟩) (fun F w a ha hs => ?_) (fun v => trivial)
  unfold m_i_Automaton_minimize_3 at hm
  refine wp_seq ?_
  refine wp_region_lit ?_
  refine seq_op0 ha hs (opT_assign (v := .int .i64 0) rfl rfl) rfl rfl ?_
  rintro u aq1 wq1 hf haq1 hsq1
  obtain rfl := Eq.symm hf
  clear ha hs a w
  refine seq_op0 haq1 hsq1 (opT_assign (v := .bool false) rfl rfl) rfl rfl ?_
  rintro u aq2 wq2 hf haq2 hsq2
  obtain rfl := Eq.symm hf
  clear haq1 hsq1 aq1 wq1
  refine wpList_nil ?_
  replace haq2 := haq2.pick' (L' := [(0, .int .i64 p0c), (1, .int .i64 p1letter), (2, .pointer (some ⟨g0_0, 0, none⟩)), (3, .pointer (some ⟨g0_1, 0, none⟩)), (4, .pointer (some ⟨g0_2, 0, none⟩))]) ⟨rfl, rfl, rfl, rfl, rfl, trivial⟩
  refine nrm ?_
  refine wp_seq ?_
  obtain ⟨r1, e1, hm⟩ := bind_some hm
  obtain ⟨r2, e2, hm⟩ := bind_some hm
  refine wp_draw (L := [(0, .int .i64 p0c), (1, .int .i64 p1letter), (2, .pointer (some ⟨g0_0, 0, none⟩)), (3, .pointer (some ⟨g0_1, 0, none⟩)), (4, .pointer (some ⟨g0_2, 0, none⟩))]) (C := [F]) { ops := [⟨[], [], [], [0], fun | [xo0] => xo0 = .agg #[.int .i64 q0.1, va1, va2] | _ => True, [(2, none)]⟩, ⟨[], [], [], [1], fun | [xo1] => xo1 = va4 | _ => True, [(3, none)]⟩, ⟨[], [], [], [2], fun | [xo2] => xo2 = .int .i64 p0c | _ => True, [(0, none)]⟩, ⟨[], [], [], [3], fun | [xo3] => xo3 = .int .i64 r1 | _ => True, [(11, some 1), (12, some 2)]⟩, ⟨[], [], [], [4], fun | [xo4] => xo4 = .int .i64 p1letter | _ => True, [(1, none)]⟩, ⟨[], [], [], [5], fun | [xo5] => xo5 = .int .i64 r2 | _ => True, [(10, some 0), (13, some 3), (14, some 4)]⟩, ⟨[], [], [], [6], fun | [xo6] => xo6 = .int .i64 r2 | _ => True, [(15, some 5)]⟩], res := [], base := [], pre := [[], [], [], [1, 2], [], [0, 1, 2, 3, 4], [0, 1, 2, 3, 4, 5]], fin := [(4, none), (9, some 6)], left := [] } (by kernel_rfl) haq2 hsq2 (perm_sel [0] (m := 1) rfl rfl) (by kernel_rfl) (by kernel_rfl) ?_ ?_
  · exact ⟨Plan.goal_run fun vs hf => ⟨wants_none rfl, OpT.conv (OpT.evs (ev' := evL [(2, .pointer (some ⟨g0_0, 0, none⟩))]) (opT_load_fro (g := g0_0) (off := 0) (l := [.int .i64 q0.1, va1, va2]) (d := [.int .i64 q0.1, va1, va2]) (u := .agg #[.int .i64 q0.1, va1, va2]) rb0 ti27 rfl rfl rfl rfl rfl rfl) rfl [.tmp 2] rfl ⟨rfl, trivial⟩) rfl (fun _ h => Eq.trans h rfl) (fun _ => rfl)⟩, Plan.goal_run fun vs hf => ⟨wants_none rfl, OpT.conv (OpT.evs (ev' := evL [(3, .pointer (some ⟨g0_1, 0, none⟩))]) (opT_load_fro (g := g0_1) (off := 0) (l := [va4]) (d := [va4]) (u := va4) rb1 ti122 rfl rfl rfl rfl rfl rfl) rfl [.tmp 3] rfl ⟨rfl, trivial⟩) rfl (fun _ h => Eq.trans h rfl) (fun _ => rfl)⟩, Plan.goal_run fun vs hf => ⟨wants_none rfl, OpT.conv (OpT.evs (ev' := evL [(0, .int .i64 p0c)]) (opT_move (v := .int .i64 p0c) rfl rfl) rfl [.tmp 0] rfl ⟨rfl, trivial⟩) rfl (fun _ h => Eq.trans h rfl) (fun _ => rfl)⟩, Plan.goal_run fun vs hf => ⟨wants_none rfl, OpT.conv (OpT.evs (ev' := evL [(11, va4), (12, .int .i64 p0c)]) (opT_call_clo (v := va4) (args := [.int .i64 p0c]) (ra4.2 _ Hp.le.rfl p0c _ e1  ) rfl rfl rfl) rfl [.tmp 11, .tmp 12] rfl ⟨(hf 1 (mb rfl)), (hf 2 (mb rfl)), trivial⟩) rfl (fun _ h => h) (fun _ => rfl)⟩, Plan.goal_run fun vs hf => ⟨wants_none rfl, OpT.conv (OpT.evs (ev' := evL [(1, .int .i64 p1letter)]) (opT_move (v := .int .i64 p1letter) rfl rfl) rfl [.tmp 1] rfl ⟨rfl, trivial⟩) rfl (fun _ h => Eq.trans h rfl) (fun _ => rfl)⟩, Plan.goal_run fun vs hf => ⟨wants_none rfl, OpT.conv (OpT.evs (ev' := evL [(10, .agg #[.int .i64 q0.1, va1, va2]), (13, .int .i64 r1), (14, .int .i64 p1letter)]) (opT_call (args := #[.agg #[.int .i64 q0.1, va1, va2], .int .i64 r1, .int .i64 p1letter]) (first := #[]) (captured := #[]) en101 rfl rfl rfl (c_i_Automaton_move (q0.1, q0.2.1, q0.2.2) r1 p1letter _ e2 va1 va2 ra1 ra2)) rfl [.func 101, .tmp 10, .tmp 13, .tmp 14] rfl ⟨rfl, (hf 0 (mb rfl)), (hf 3 (mb rfl)), (hf 4 (mb rfl)), trivial⟩) rfl (fun _ h => h) (fun _ => rfl)⟩, Plan.goal_run fun vs hf => ⟨wants_none rfl, OpT.conv (OpT.evs (ev' := evL [(15, .int .i64 r2)]) (opT_assign (v := .int .i64 r2) rfl rfl) rfl [.tmp 15] rfl ⟨(hf 5 (mb rfl)), trivial⟩) rfl (fun _ h => Eq.trans h rfl) (fun _ => rfl)⟩, trivial⟩
  intro vs aq3 wq3 hf haq3 hsq3
  clear haq2 hsq2
  replace haq3 := haq3.pick' (L' := [(4, .pointer (some ⟨g0_2, 0, none⟩)), (9, .int .i64 r2)]) ⟨rfl, (congrArg some (show _ = _ from (hf 6 (Nat.le_of_ble_eq_true rfl)))), trivial⟩
  replace hsq3 : St I w0 wq3 [F] := hsq3
  clear hf vs
  refine nrm ?_
  refine wp_seq ?_
  refine wp_seq ?_
  refine wp_region_lit ?_
  refine seq_op0 haq3 hsq3 (opT_move (v := .int .i64 r2) rfl rfl) rfl rfl ?_
  rintro u aq4 wq4 hf haq4 hsq4
  obtain rfl := Eq.symm hf
  clear haq3 hsq3 aq3 wq3
  refine seq_op0 haq4 hsq4 (opT_cmp (k := .i64) (m := r2) (n := 0) (c := decide (r2 < 0)) rfl rfl rfl rfl rfl) rfl rfl ?_
  rintro u aq5 wq5 hf haq5 hsq5
  obtain rfl := Eq.symm hf
  clear haq4 hsq4 aq4 wq4
  refine seq_op0 haq5 hsq5 (opT_move (v := .bool (decide (r2 < 0))) rfl rfl) rfl rfl ?_
  rintro u aq6 wq6 hf haq6 hsq6
  obtain rfl := Eq.symm hf
  clear haq5 hsq5 aq5 wq5
  rcases two (decide (r2 < 0)) with hb1 | hb1
  · replace hm := ifFe hb1 hm
    refine seq_op_g0 (g := 2) (d := 18) (want := false) (b := decide (r2 < 0)) haq6 hsq6 rfl rfl rfl hb1 (opT_load_fro (g := g0_2) (off := 0) (l := [va6]) (d := [va6]) (u := va6) rb2 ti34 rfl rfl rfl rfl rfl rfl) rfl ?_
    rintro u aq7 wq7 hf haq7 hsq7
    obtain rfl := Eq.symm hf
    clear haq6 hsq6 aq6 wq6
    refine seq_op_g0 (g := 2) (d := 18) (want := false) (b := decide (r2 < 0)) haq7 hsq7 rfl rfl rfl hb1 (opT_move (v := .int .i64 r2) rfl rfl) rfl ?_
    rintro u aq8 wq8 hf haq8 hsq8
    obtain rfl := Eq.symm hf
    clear haq7 hsq7 aq7 wq7
    obtain ⟨x1, e3, hm⟩ := bind_some hm
    refine seq_op_g0 (g := 2) (d := 18) (want := false) (b := decide (r2 < 0)) haq8 hsq8 rfl rfl rfl hb1 (opT_index_hd (xs := q2) (i := r2) (n := 1) (Hd.of_rd ra6) Try.underlying34 ti3 rfl rfl rfl (getI_in e3)) rfl ?_
    rintro u aq9 wq9 hf haq9 hsq9
    obtain rfl := Eq.symm hf
    clear haq8 hsq8 aq8 wq8
    refine seq_op_g0 (g := 2) (d := 18) (want := false) (b := decide (r2 < 0)) haq9 hsq9 rfl rfl rfl hb1 (opT_load_el (S := rInt) (xs := q2) (a := x1) (i := r2) (k := 1) (off := 0) (f := fun (x : Int) => x) ra6 e3 Fld.self ti3 rfl rfl rfl rfl rfl) rfl ?_
    rintro u aq10 wq10 hf haq10 hsq10
    obtain rfl := lds_one hf
    clear haq9 hsq9 aq9 wq9
    refine seq_op_g0 (g := 2) (d := 18) (want := false) (b := decide (r2 < 0)) haq10 hsq10 rfl rfl rfl hb1 (opT_cmp (k := .i64) (m := x1) (n := 0) (c := decide (x1 < 0)) rfl rfl rfl rfl rfl) rfl ?_
    rintro u aq11 wq11 hf haq11 hsq11
    obtain rfl := Eq.symm hf
    clear haq10 hsq10 aq10 wq10
    refine seq_op0 haq11 hsq11 (opT_pick (b := decide (r2 < 0)) (v := .bool (decide (x1 < 0))) rfl rfl (ifF hb1)) rfl rfl ?_
    rintro u aq12 wq12 hf haq12 hsq12
    obtain rfl := Eq.symm hf
    clear haq11 hsq11 aq11 wq11
    refine wpList_nil ?_
    replace haq12 := haq12.pick' (L' := [(4, .pointer (some ⟨g0_2, 0, none⟩)), (9, .int .i64 r2), (24, .bool (decide (x1 < 0)))]) ⟨rfl, rfl, rfl, trivial⟩
    refine nrm ?_
    rcases two (decide (x1 < 0)) with hb2 | hb2
    · replace hm := ifFe hb2 hm
      refine cnd_false (b := decide (x1 < 0)) haq12 rfl rfl hb2 ?_
      refine wp_skip ?_
      refine nrm ?_
      refine wp_seq ?_
      refine wp_region_lit ?_
      refine seq_op0 haq12 hsq12 (opT_load_fro (g := g0_2) (off := 0) (l := [va6]) (d := [va6]) (u := va6) rb2 ti34 rfl rfl rfl rfl rfl rfl) rfl rfl ?_
      rintro u aq13 wq13 hf haq13 hsq13
      obtain rfl := Eq.symm hf
      clear haq12 hsq12 aq12 wq12
      refine seq_op0 haq13 hsq13 (opT_move (v := .int .i64 r2) rfl rfl) rfl rfl ?_
      rintro u aq14 wq14 hf haq14 hsq14
      obtain rfl := Eq.symm hf
      clear haq13 hsq13 aq13 wq13
      obtain ⟨x2, e4, hm⟩ := bind_some hm
      refine seq_op0 haq14 hsq14 (opT_index_hd (xs := q2) (i := r2) (n := 1) (Hd.of_rd ra6) Try.underlying34 ti3 rfl rfl rfl (getI_in e4)) rfl rfl ?_
      rintro u aq15 wq15 hf haq15 hsq15
      obtain rfl := Eq.symm hf
      clear haq14 hsq14 aq14 wq14
      refine seq_op0 haq15 hsq15 (opT_load_el (S := rInt) (xs := q2) (a := x2) (i := r2) (k := 1) (off := 0) (f := fun (x : Int) => x) ra6 e4 Fld.self ti3 rfl rfl rfl rfl rfl) rfl rfl ?_
      rintro u aq16 wq16 hf haq16 hsq16
      obtain rfl := lds_one hf
      clear haq15 hsq15 aq15 wq15
      refine seq_op0 haq16 hsq16 (opT_assign (v := .int .i64 x2) rfl rfl) rfl rfl ?_
      rintro u aq17 wq17 hf haq17 hsq17
      obtain rfl := Eq.symm hf
      clear haq16 hsq16 aq16 wq16
      refine seq_op0 haq17 hsq17 (opT_assign (v := .bool true) rfl rfl) rfl rfl ?_
      rintro u aq18 wq18 hf haq18 hsq18
      obtain rfl := Eq.symm hf
      clear haq17 hsq17 aq17 wq17
      refine wpList_nil ?_
      replace haq18 := haq18.pick' (L' := [(7, .int .i64 x2), (8, .bool true)]) ⟨rfl, rfl, trivial⟩
      refine nrm ?_
      refine wp_ret ?_
      obtain rfl := Option.some.inj hm
      exact ret_2 haq18 rfl (res_tmp haq18 rfl) (res_tmp haq18 rfl) ⟨_, rfl, rfl, _, Hp.le.rfl, St.sel (hsq18) 1 [0] rfl rfl⟩
    · replace hm := ifTe hb2 hm
      refine cnd_true (b := decide (x1 < 0)) haq12 rfl rfl hb2 ?_
      refine wp_seq ?_
      refine wp_region_lit ?_
      refine seq_op0 haq12 hsq12 (opT_assign (v := .int .i64 0) rfl rfl) rfl rfl ?_
      rintro u aq19 wq19 hf haq19 hsq19
      obtain rfl := Eq.symm hf
      clear haq12 hsq12 aq12 wq12
      refine seq_op0 haq19 hsq19 (opT_assign (v := .bool false) rfl rfl) rfl rfl ?_
      rintro u aq20 wq20 hf haq20 hsq20
      obtain rfl := Eq.symm hf
      clear haq19 hsq19 aq19 wq19
      refine wpList_nil ?_
      replace haq20 := haq20.pick' (L' := [(7, .int .i64 0), (8, .bool false)]) ⟨rfl, rfl, trivial⟩
      refine nrm ?_
      refine wp_ret ?_
      refine thenR ?_
      obtain rfl := Option.some.inj hm
      exact ret_2 haq20 rfl (res_tmp haq20 rfl) (res_tmp haq20 rfl) ⟨_, rfl, rfl, _, Hp.le.rfl, St.sel (hsq20) 1 [0] rfl rfl⟩
  · replace hm := ifTe hb1 hm
    refine seq_skip (g := 2) (d := 18) (want := false) (b := decide (r2 < 0)) haq6 hsq6 rfl rfl rfl hb1 rfl ?_
    intro aq21 haq21
    refine seq_skip (g := 2) (d := 18) (want := false) (b := decide (r2 < 0)) haq21 hsq6 rfl rfl rfl hb1 rfl ?_
    intro aq22 haq22
    refine seq_skip (g := 2) (d := 18) (want := false) (b := decide (r2 < 0)) haq22 hsq6 rfl rfl rfl hb1 rfl ?_
    intro aq23 haq23
    refine seq_skip (g := 2) (d := 18) (want := false) (b := decide (r2 < 0)) haq23 hsq6 rfl rfl rfl hb1 rfl ?_
    intro aq24 haq24
    refine seq_skip (g := 2) (d := 18) (want := false) (b := decide (r2 < 0)) haq24 hsq6 rfl rfl rfl hb1 rfl ?_
    intro aq25 haq25
    refine seq_op0 haq25 hsq6 (opT_pick (b := decide (r2 < 0)) (v := .bool true) rfl rfl (ifT hb1)) rfl rfl ?_
    rintro u aq26 wq26 hf haq26 hsq26
    obtain rfl := Eq.symm hf
    clear haq25 hsq6 aq25 wq6
    refine wpList_nil ?_
    replace haq26 := haq26.pick' (L' := [(4, .pointer (some ⟨g0_2, 0, none⟩)), (9, .int .i64 r2), (24, .bool true)]) ⟨rfl, rfl, rfl, trivial⟩
    refine nrm ?_
    refine cnd_true (b := true) haq26 rfl rfl rfl ?_
    refine wp_seq ?_
    refine wp_region_lit ?_
    refine seq_op0 haq26 hsq26 (opT_assign (v := .int .i64 0) rfl rfl) rfl rfl ?_
    rintro u aq27 wq27 hf haq27 hsq27
    obtain rfl := Eq.symm hf
    clear haq26 hsq26 aq26 wq26
    refine seq_op0 haq27 hsq27 (opT_assign (v := .bool false) rfl rfl) rfl rfl ?_
    rintro u aq28 wq28 hf haq28 hsq28
    obtain rfl := Eq.symm hf
    clear haq27 hsq27 aq27 wq27
    refine wpList_nil ?_
    replace haq28 := haq28.pick' (L' := [(7, .int .i64 0), (8, .bool false)]) ⟨rfl, rfl, trivial⟩
    refine nrm ?_
    refine wp_ret ?_
    refine thenR ?_
    obtain rfl := Option.some.inj hm
    exact ret_2 haq28 rfl (res_tmp haq28 rfl) (res_tmp haq28 rfl) ⟨_, rfl, rfl, _, Hp.le.rfl, St.sel (hsq28) 1 [0] rfl rfl⟩
end Go.Proofs.Ytcihbmdppgpmjaa.D
