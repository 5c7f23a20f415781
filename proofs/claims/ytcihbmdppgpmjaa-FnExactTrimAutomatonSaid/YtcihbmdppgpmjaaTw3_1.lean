/- Printed by dec.py: models of functions and the walks that show them. -/
import Derived.Test.YtcihbmdppgpmjaaTw2_3
set_option linter.unusedVariables false
set_option linter.unusedSimpArgs false
set_option linter.unnecessarySimpa false
set_option maxRecDepth 100000
namespace Go.Proofs.Ytcihbmdppgpmjaa.D
open Go.RowKit
set_option maxHeartbeats 8000000 in
theorem c_i_Automaton_trim_1 (p0s : Int) (p1letter : Int) (q0 : Int × (List Bool) × (List (List Int))) (q1 : List Bool) (r : Int × Bool) (hm : m_i_Automaton_trim_1 p0s p1letter q0 q1 = some r) {I : Hp} {w0 : World} (g0_0 : Nat) (va1 : Value) (va2 : Value) (g0_1 : Nat) (va4 : Value) (rb0 : I g0_0 = some (.cells #[.int .i64 q0.1, va1, va2] 27 (0, 0))) (ra1 : (rSlice 4 rBool).rd I [va1] q0.2.1) (ra2 : (rSlice 34 (rSlice 3 rInt)).rd I [va2] q0.2.2) (rb1 : I g0_1 = some (.cells #[va4] 22 (0, 0))) (ra4 : (rSlice 4 rBool).rd I [va4] q1) : Con Try.prog 100 #[.int .i64 p0s, .int .i64 p1letter, .pointer (some ⟨g0_0, 0, none⟩), .pointer (some ⟨g0_1, 0, none⟩)] I w0 [] (fun v => v = .tuple #[.int .i64 r.1, .bool r.2]) (fun v => []) := by
  refine con_of_wp (n := 22) [(0, .int .i64 p0s), (1, .int .i64 p1letter), (2, .pointer (some ⟨g0_0, 0, none⟩)), (3, .pointer (some ⟨g0_1, 0, none⟩))] Try.func100 rfl rfl (Nat.le_of_ble_eq_true rfl) (args_all ⟨rfl, rfl, rfl, rfl, trivial⟩) (fun F w a ha hs => ?_) (fun v => trivial)
  unfold m_i_Automaton_trim_1 at hm
  refine wp_seq ?_
  refine wp_region_lit ?_
  refine seq_op0 ha hs (opT_assign (v := .int .i64 0) rfl rfl) rfl rfl ?_
  rintro u aq1 wq1 hf haq1 hsq1
  obtain rfl := Eq.symm hf
  clear ha hs a w
  refine seq_op0 haq1 hsq1 (opT_assign (v := .bool false) rfl rfl) rfl rfl ?_
  rintro u aq2 wq2 hf haq2 hsq2
  obtain rfl := Eq.symm hf
  clear haq1 hsq1 aq1 wq1
  refine wpList_nil ?_
  replace haq2 := haq2.pick' (L' := [(0, .int .i64 p0s), (1, .int .i64 p1letter), (2, .pointer (some ⟨g0_0, 0, none⟩)), (3, .pointer (some ⟨g0_1, 0, none⟩))]) ⟨rfl, rfl, rfl, rfl, trivial⟩
  refine nrm ?_
  refine wp_seq ?_
  refine wp_region_lit ?_
  refine seq_op0 haq2 hsq2 (opT_load_fro (g := g0_0) (off := 0) (l := [.int .i64 q0.1, va1, va2]) (d := [.int .i64 q0.1, va1, va2]) (u := .agg #[.int .i64 q0.1, va1, va2]) rb0 ti27 rfl rfl rfl rfl rfl rfl) rfl rfl ?_
  rintro u aq3 wq3 hf haq3 hsq3
  obtain rfl := Eq.symm hf
  clear haq2 hsq2 aq2 wq2
  refine seq_op0 haq3 hsq3 (opT_move (v := .int .i64 p0s) rfl rfl) rfl rfl ?_
  rintro u aq4 wq4 hf haq4 hsq4
  obtain rfl := Eq.symm hf
  clear haq3 hsq3 aq3 wq3
  refine seq_op0 haq4 hsq4 (opT_move (v := .int .i64 p1letter) rfl rfl) rfl rfl ?_
  rintro u aq5 wq5 hf haq5 hsq5
  obtain rfl := Eq.symm hf
  clear haq4 hsq4 aq4 wq4
  obtain ⟨r1, e1, hm⟩ := bind_some hm
  refine seq_op0 haq5 hsq5 (opT_call (args := #[.agg #[.int .i64 q0.1, va1, va2], .int .i64 p0s, .int .i64 p1letter]) (first := #[]) (captured := #[]) en101 rfl rfl rfl (c_i_Automaton_move (q0.1, q0.2.1, q0.2.2) p0s p1letter _ e1 va1 va2 ra1 ra2)) rfl rfl ?_
  rintro u aq6 wq6 hf haq6 hsq6
  obtain rfl := Eq.symm hf
  clear haq5 hsq5 aq5 wq5
  refine seq_op0 haq6 hsq6 (opT_assign (v := .int .i64 r1) rfl rfl) rfl rfl ?_
  rintro u aq7 wq7 hf haq7 hsq7
  obtain rfl := Eq.symm hf
  clear haq6 hsq6 aq6 wq6
  refine wpList_nil ?_
  replace haq7 := haq7.pick' (L' := [(3, .pointer (some ⟨g0_1, 0, none⟩)), (8, .int .i64 r1)]) ⟨rfl, rfl, trivial⟩
  refine nrm ?_
  refine wp_seq ?_
  rcases two (decide (r1 ≥ 0)) with hb1 | hb1
  · replace hm := ifFe hb1 hm
    refine wp_draw (L := [(3, .pointer (some ⟨g0_1, 0, none⟩)), (8, .int .i64 r1)]) (C := [F]) { ops := [⟨[], [], [], [0], fun | [xo0] => xo0 = .int .i64 r1 | _ => True, [(8, none)]⟩, ⟨[], [], [], [1], fun | [xo1] => xo1 = .int .i64 r1 | _ => True, [(8, none)]⟩, ⟨[], [], [], [2], fun | [xo2] => xo2 = .bool (decide (r1 ≥ 0)) | _ => True, [(14, some 1)]⟩, ⟨[], [], [], [3], fun | [xo3] => xo3 = .bool (decide (r1 ≥ 0)) | _ => True, [(15, some 2)]⟩, ⟨[], [], [], [4], fun | [xo4] => xo4 = undef | _ => True, [(3, none), (16, some 3)]⟩, ⟨[], [], [], [5], fun | [xo5] => xo5 = undef | _ => True, [(8, none), (16, some 3)]⟩, ⟨[], [], [], [6], fun | [xo6] => xo6 = undef | _ => True, [(17, some 4), (18, some 5), (16, some 3)]⟩, ⟨[], [], [], [7], fun | [xo7] => xo7 = undef | _ => True, [(19, some 6), (16, some 3)]⟩, ⟨[], [], [], [8], fun | [xo8] => xo8 = .bool false | _ => True, [(16, some 3), (20, some 7)]⟩, ⟨[], [], [], [9], fun | [xo9] => xo9 = .int .i64 r1 | _ => True, [(13, some 0)]⟩, ⟨[], [], [], [10], fun | [xo10] => xo10 = .bool false | _ => True, [(21, some 8)]⟩], res := [], base := [], pre := [[], [], [1], [1, 2], [1, 2, 3], [1, 2, 3], [1, 2, 3, 4, 5], [1, 2, 3, 4, 5, 6], [1, 2, 3, 4, 5, 6, 7], [0, 1, 2, 3], [0, 1, 2, 3, 4, 5, 6, 7, 8, 9]], fin := [(6, some 9), (7, some 10)], left := [] } (by kernel_rfl) haq7 hsq7 (perm_sel [0] (m := 1) rfl rfl) (by kernel_rfl) (by kernel_rfl) ?_ ?_
    · exact ⟨Plan.goal_run fun vs hf => ⟨wants_none rfl, OpT.conv (OpT.evs (ev' := evL [(8, .int .i64 r1)]) (opT_move (v := .int .i64 r1) rfl rfl) rfl [.tmp 8] rfl ⟨rfl, trivial⟩) rfl (fun _ h => Eq.trans h rfl) (fun _ => rfl)⟩, Plan.goal_run fun vs hf => ⟨wants_none rfl, OpT.conv (OpT.evs (ev' := evL [(8, .int .i64 r1)]) (opT_move (v := .int .i64 r1) rfl rfl) rfl [.tmp 8] rfl ⟨rfl, trivial⟩) rfl (fun _ h => Eq.trans h rfl) (fun _ => rfl)⟩, Plan.goal_run fun vs hf => ⟨wants_none rfl, OpT.conv (OpT.evs (ev' := evL [(14, .int .i64 r1)]) (opT_cmp (k := .i64) (m := r1) (n := 0) (c := decide (r1 ≥ 0)) rfl rfl rfl rfl rfl) rfl [.tmp 14, .const (.int .i64 0)] rfl ⟨(hf 1 (mb rfl)), rfl, trivial⟩) rfl (fun _ h => Eq.trans h rfl) (fun _ => rfl)⟩, Plan.goal_run fun vs hf => ⟨wants_none rfl, OpT.conv (OpT.evs (ev' := evL [(15, .bool (decide (r1 ≥ 0)))]) (opT_move (v := .bool (decide (r1 ≥ 0))) rfl rfl) rfl [.tmp 15] rfl ⟨(hf 2 (mb rfl)), trivial⟩) rfl (fun _ h => Eq.trans h rfl) (fun _ => rfl)⟩, Plan.goal_skip (fun vs hf => wants_some rfl (hf 3 (mb rfl)) (beqF hb1)) (fun vs => rfl) rfl rfl, Plan.goal_skip (fun vs hf => wants_some rfl (hf 3 (mb rfl)) (beqF hb1)) (fun vs => rfl) rfl rfl, Plan.goal_skip (fun vs hf => wants_some rfl (hf 3 (mb rfl)) (beqF hb1)) (fun vs => rfl) rfl rfl, Plan.goal_skip (fun vs hf => wants_some rfl (hf 3 (mb rfl)) (beqF hb1)) (fun vs => rfl) rfl rfl, Plan.goal_run fun vs hf => ⟨wants_none rfl, OpT.conv (OpT.evs (ev' := evL [(16, .bool (decide (r1 ≥ 0))), (20, undef)]) (opT_pick (b := decide (r1 ≥ 0)) (v := .bool false) rfl rfl (ifF hb1)) rfl [.tmp 16, .tmp 20, .const (.bool false)] rfl ⟨(hf 3 (mb rfl)), (hf 7 (mb rfl)), rfl, trivial⟩) rfl (fun _ h => Eq.trans h rfl) (fun _ => rfl)⟩, Plan.goal_run fun vs hf => ⟨wants_none rfl, OpT.conv (OpT.evs (ev' := evL [(13, .int .i64 r1)]) (opT_assign (v := .int .i64 r1) rfl rfl) rfl [.tmp 13] rfl ⟨(hf 0 (mb rfl)), trivial⟩) rfl (fun _ h => Eq.trans h rfl) (fun _ => rfl)⟩, Plan.goal_run fun vs hf => ⟨wants_none rfl, OpT.conv (OpT.evs (ev' := evL [(21, .bool false)]) (opT_assign (v := .bool false) rfl rfl) rfl [.tmp 21] rfl ⟨(hf 8 (mb rfl)), trivial⟩) rfl (fun _ h => Eq.trans h rfl) (fun _ => rfl)⟩, trivial⟩
    intro vs aq8 wq8 hf haq8 hsq8
    clear haq7 hsq7
    replace haq8 := haq8.pick' (L' := [(6, .int .i64 r1), (7, .bool false)]) ⟨(congrArg some (show _ = _ from (hf 9 (Nat.le_of_ble_eq_true rfl)))), (congrArg some (show _ = _ from (hf 10 (Nat.le_of_ble_eq_true rfl)))), trivial⟩
    replace hsq8 : St I w0 wq8 [F] := hsq8
    clear hf vs
    refine nrm ?_
    refine wp_ret ?_
    obtain rfl := Option.some.inj hm
    exact ret_2 haq8 rfl (res_tmp haq8 rfl) (res_tmp haq8 rfl) ⟨_, rfl, rfl, _, Hp.le.rfl, St.sel (hsq8) 1 [0] rfl rfl⟩
  · replace hm := ifTe hb1 hm
    obtain ⟨x1, e2, hm⟩ := bind_some hm
    refine wp_draw (L := [(3, .pointer (some ⟨g0_1, 0, none⟩)), (8, .int .i64 r1)]) (C := [F]) { ops := [⟨[], [], [], [0], fun | [xo0] => xo0 = .int .i64 r1 | _ => True, [(8, none)]⟩, ⟨[], [], [], [1], fun | [xo1] => xo1 = .int .i64 r1 | _ => True, [(8, none)]⟩, ⟨[], [], [], [2], fun | [xo2] => xo2 = .bool (decide (r1 ≥ 0)) | _ => True, [(14, some 1)]⟩, ⟨[], [], [], [3], fun | [xo3] => xo3 = .bool (decide (r1 ≥ 0)) | _ => True, [(15, some 2)]⟩, ⟨[], [], [], [4], fun | [xo4] => xo4 = va4 | _ => True, [(3, none), (16, some 3)]⟩, ⟨[], [], [], [5], fun | [xo5] => xo5 = .int .i64 r1 | _ => True, [(8, none), (16, some 3)]⟩, ⟨[], [], [], [6], fun | [xo6] => xo6 = pt va4 (r1.toNat * 1) | _ => True, [(17, some 4), (18, some 5), (16, some 3)]⟩, ⟨[], [], [], [7], fun | [xo7] => xo7 = .bool x1 | _ => True, [(19, some 6), (16, some 3)]⟩, ⟨[], [], [], [8], fun | [xo8] => xo8 = .bool x1 | _ => True, [(16, some 3), (20, some 7)]⟩, ⟨[], [], [], [9], fun | [xo9] => xo9 = .int .i64 r1 | _ => True, [(13, some 0)]⟩, ⟨[], [], [], [10], fun | [xo10] => xo10 = .bool x1 | _ => True, [(21, some 8)]⟩], res := [], base := [], pre := [[], [], [1], [1, 2], [1, 2, 3], [1, 2, 3], [1, 2, 3, 4, 5], [1, 2, 3, 4, 5, 6], [1, 2, 3, 4, 5, 6, 7], [0, 1, 2, 3], [0, 1, 2, 3, 4, 5, 6, 7, 8, 9]], fin := [(6, some 9), (7, some 10)], left := [] } (by kernel_rfl) haq7 hsq7 (perm_sel [0] (m := 1) rfl rfl) (by kernel_rfl) (by kernel_rfl) ?_ ?_
    · exact ⟨Plan.goal_run fun vs hf => ⟨wants_none rfl, OpT.conv (OpT.evs (ev' := evL [(8, .int .i64 r1)]) (opT_move (v := .int .i64 r1) rfl rfl) rfl [.tmp 8] rfl ⟨rfl, trivial⟩) rfl (fun _ h => Eq.trans h rfl) (fun _ => rfl)⟩, Plan.goal_run fun vs hf => ⟨wants_none rfl, OpT.conv (OpT.evs (ev' := evL [(8, .int .i64 r1)]) (opT_move (v := .int .i64 r1) rfl rfl) rfl [.tmp 8] rfl ⟨rfl, trivial⟩) rfl (fun _ h => Eq.trans h rfl) (fun _ => rfl)⟩, Plan.goal_run fun vs hf => ⟨wants_none rfl, OpT.conv (OpT.evs (ev' := evL [(14, .int .i64 r1)]) (opT_cmp (k := .i64) (m := r1) (n := 0) (c := decide (r1 ≥ 0)) rfl rfl rfl rfl rfl) rfl [.tmp 14, .const (.int .i64 0)] rfl ⟨(hf 1 (mb rfl)), rfl, trivial⟩) rfl (fun _ h => Eq.trans h rfl) (fun _ => rfl)⟩, Plan.goal_run fun vs hf => ⟨wants_none rfl, OpT.conv (OpT.evs (ev' := evL [(15, .bool (decide (r1 ≥ 0)))]) (opT_move (v := .bool (decide (r1 ≥ 0))) rfl rfl) rfl [.tmp 15] rfl ⟨(hf 2 (mb rfl)), trivial⟩) rfl (fun _ h => Eq.trans h rfl) (fun _ => rfl)⟩, Plan.goal_run fun vs hf => ⟨wants_some rfl (hf 3 (mb rfl)) (beqT hb1), OpT.conv (OpT.evs (ev' := evL [(3, .pointer (some ⟨g0_1, 0, none⟩))]) (opT_load_fro (g := g0_1) (off := 0) (l := [va4]) (d := [va4]) (u := va4) rb1 ti22 rfl rfl rfl rfl rfl rfl) rfl [.tmp 3] rfl ⟨rfl, trivial⟩) rfl (fun _ h => Eq.trans h rfl) (fun _ => rfl)⟩, Plan.goal_run fun vs hf => ⟨wants_some rfl (hf 3 (mb rfl)) (beqT hb1), OpT.conv (OpT.evs (ev' := evL [(8, .int .i64 r1)]) (opT_move (v := .int .i64 r1) rfl rfl) rfl [.tmp 8] rfl ⟨rfl, trivial⟩) rfl (fun _ h => Eq.trans h rfl) (fun _ => rfl)⟩, Plan.goal_run fun vs hf => ⟨wants_some rfl (hf 3 (mb rfl)) (beqT hb1), OpT.conv (OpT.evs (ev' := evL [(17, va4), (18, .int .i64 r1)]) (opT_index_hd (xs := q1) (i := r1) (n := 1) (Hd.of_rd ra4) Try.underlying22 ti4 rfl rfl rfl (getI_in e2)) rfl [.tmp 17, .tmp 18] rfl ⟨(hf 4 (mb rfl)), (hf 5 (mb rfl)), trivial⟩) rfl (fun _ h => Eq.trans h rfl) (fun _ => rfl)⟩, Plan.goal_run fun vs hf => ⟨wants_some rfl (hf 3 (mb rfl)) (beqT hb1), OpT.conv (OpT.evs (ev' := evL [(19, pt va4 (r1.toNat * 1))]) (opT_load_el (S := rBool) (xs := q1) (a := x1) (i := r1) (k := 1) (off := 0) (f := fun (x : Bool) => x) ra4 e2 Fld.self ti4 rfl rfl rfl rfl rfl) rfl [.tmp 19] rfl ⟨(hf 6 (mb rfl)), trivial⟩) rfl (fun _ h => lds_one h) (fun _ => rfl)⟩, Plan.goal_run fun vs hf => ⟨wants_none rfl, OpT.conv (OpT.evs (ev' := evL [(16, .bool (decide (r1 ≥ 0))), (20, .bool x1)]) (opT_pick (b := decide (r1 ≥ 0)) (v := .bool x1) rfl rfl (ifT hb1)) rfl [.tmp 16, .tmp 20, .const (.bool false)] rfl ⟨(hf 3 (mb rfl)), (hf 7 (mb rfl)), rfl, trivial⟩) rfl (fun _ h => Eq.trans h rfl) (fun _ => rfl)⟩, Plan.goal_run fun vs hf => ⟨wants_none rfl, OpT.conv (OpT.evs (ev' := evL [(13, .int .i64 r1)]) (opT_assign (v := .int .i64 r1) rfl rfl) rfl [.tmp 13] rfl ⟨(hf 0 (mb rfl)), trivial⟩) rfl (fun _ h => Eq.trans h rfl) (fun _ => rfl)⟩, Plan.goal_run fun vs hf => ⟨wants_none rfl, OpT.conv (OpT.evs (ev' := evL [(21, .bool x1)]) (opT_assign (v := .bool x1) rfl rfl) rfl [.tmp 21] rfl ⟨(hf 8 (mb rfl)), trivial⟩) rfl (fun _ h => Eq.trans h rfl) (fun _ => rfl)⟩, trivial⟩
    intro vs aq9 wq9 hf haq9 hsq9
    clear haq7 hsq7
    replace haq9 := haq9.pick' (L' := [(6, .int .i64 r1), (7, .bool x1)]) ⟨(congrArg some (show _ = _ from (hf 9 (Nat.le_of_ble_eq_true rfl)))), (congrArg some (show _ = _ from (hf 10 (Nat.le_of_ble_eq_true rfl)))), trivial⟩
    replace hsq9 : St I w0 wq9 [F] := hsq9
    clear hf vs
    refine nrm ?_
    refine wp_ret ?_
    obtain rfl := Option.some.inj hm
    exact ret_2 haq9 rfl (res_tmp haq9 rfl) (res_tmp haq9 rfl) ⟨_, rfl, rfl, _, Hp.le.rfl, St.sel (hsq9) 1 [0] rfl rfl⟩
end Go.Proofs.Ytcihbmdppgpmjaa.D
