/- Printed by dec.py: models of functions and the walks that show them. -/
import Derived.Test.YtcihbmdppgpmjaaIw1_2
import Derived.Test.YtcihbmdppgpmjaaIw2_2
set_option linter.unusedVariables false
set_option linter.unusedSimpArgs false
set_option linter.unnecessarySimpa false
set_option maxRecDepth 100000
namespace Go.Proofs.Ytcihbmdppgpmjaa.D
open Go.RowKit
set_option maxHeartbeats 8000000 in
theorem c_s_IsMinimal (p0a : Int × (List Bool) × (List (List Int))) (r : Bool) (hm : m_s_IsMinimal p0a = some r) {I : Hp} {w0 : World} (va0 : Value) (va1 : Value) (ra0 : (rSlice 4 rBool).rd I [va0] p0a.2.1) (ra1 : (rSlice 34 (rSlice 3 rInt)).rd I [va1] p0a.2.2) : Con Try.prog 19 #[.agg #[.int .i64 p0a.1, va0, va1]] I w0 [] (fun v => v = .bool r) (fun v => []) := by
  refine con_of_wp (n := 11) [(0, .agg #[.int .i64 p0a.1, va0, va1])] Try.func19 rfl rfl (Nat.le_of_ble_eq_true rfl) (args_all ⟨rfl, trivial⟩) (fun F w a ha hs => ?_) (fun v => trivial)
  unfold m_s_IsMinimal at hm
  refine wp_seq ?_
  refine wp_region_lit ?_
  refine seq_op ha hs rfl (opT_box (u := .agg #[.int .i64 p0a.1, va0, va1]) (l := [.int .i64 p0a.1, va0, va1]) rfl rfl rfl) (List.Perm.refl _) rfl ?_
  rintro _ aq1 wq1 ⟨g1, rfl⟩ haq1 (hsq1 : St I w0 wq1 [Ch.blk g1 [.int .i64 p0a.1, va0, va1] 27, F])
  clear ha hs a w
  refine seq_op0 haq1 hsq1 (opT_assign (v := .bool false) rfl rfl) rfl rfl ?_
  rintro u aq2 wq2 hf haq2 hsq2
  obtain rfl := Eq.symm hf
  clear haq1 hsq1 aq1 wq1
  refine wpList_nil ?_
  replace haq2 := haq2.pick' (L' := [(1, .pointer (some ⟨g1, 0, none⟩))]) ⟨rfl, trivial⟩
  refine nrm ?_
  refine wp_seq ?_
  obtain ⟨r1, e1, hm⟩ := bind_some hm
  rcases two (r1) with hb1 | hb1
  · replace hm := ifFe hb1 hm
    refine wp_draw (L := [(1, .pointer (some ⟨g1, 0, none⟩))]) (C := [F]) { ops := [⟨[0], [], [], [0], fun | [xo0] => xo0 = .agg #[.int .i64 p0a.1, va0, va1] | _ => True, [(1, none)]⟩, ⟨[], [], [], [1], fun | [xo1] => xo1 = .bool r1 | _ => True, [(3, some 0)]⟩, ⟨[], [], [], [2], fun | [xo2] => xo2 = .bool r1 | _ => True, [(4, some 1)]⟩, ⟨[], [], [], [3], fun | [xo3] => xo3 = undef | _ => True, [(1, none), (5, some 2)]⟩, ⟨[], [], [], [4], fun | [xo4] => xo4 = undef | _ => True, [(6, some 3), (5, some 2)]⟩, ⟨[], [], [], [5], fun | [xo5] => xo5 = undef | _ => True, [(1, none), (5, some 2)]⟩, ⟨[], [], [], [6], fun | [xo6] => xo6 = undef | _ => True, [(7, some 4), (8, some 5), (5, some 2)]⟩, ⟨[], [], [], [7], fun | [xo7] => xo7 = .bool false | _ => True, [(5, some 2), (9, some 6)]⟩, ⟨[], [], [], [8], fun | [xo8] => xo8 = .bool false | _ => True, [(10, some 7)]⟩], res := [⟨[], fun _ => Ch.blk g1 [.int .i64 p0a.1, va0, va1] 27⟩], base := [0], pre := [[], [0], [0, 1], [0, 1, 2], [0, 1, 2, 3], [0, 1, 2], [0, 1, 2, 3, 4, 5], [0, 1, 2, 3, 4, 5, 6], [0, 1, 2, 3, 4, 5, 6, 7]], fin := [(2, some 8)], left := [0] } (by kernel_rfl) haq2 hsq2 (perm_sel [0, 1] (m := 2) rfl rfl) (by kernel_rfl) (by kernel_rfl) ?_ ?_
    · exact ⟨Plan.goal_run fun vs hf => ⟨wants_none rfl, OpT.conv (OpT.evs (ev' := evL [(1, .pointer (some ⟨g1, 0, none⟩))]) (opT_load_blk (g := g1) (off := 0) (E := 27) (l := [.int .i64 p0a.1, va0, va1]) (d := [.int .i64 p0a.1, va0, va1]) (u := .agg #[.int .i64 p0a.1, va0, va1]) ti27 rfl rfl rfl rfl rfl rfl) rfl [.tmp 1] rfl ⟨rfl, trivial⟩) rfl (fun _ h => Eq.trans h rfl) (fun _ => rfl)⟩, Plan.goal_run fun vs hf => ⟨wants_none rfl, OpT.conv (OpT.evs (ev' := evL [(3, .agg #[.int .i64 p0a.1, va0, va1])]) (opT_call (args := #[.agg #[.int .i64 p0a.1, va0, va1]]) (first := #[]) (captured := #[]) en46 rfl rfl rfl (c_s_IsValidAutomaton (p0a.1, p0a.2.1, p0a.2.2) _ e1 va0 va1 ra0 ra1)) rfl [.func 46, .tmp 3] rfl ⟨rfl, (hf 0 (mb rfl)), trivial⟩) rfl (fun _ h => h) (fun _ => rfl)⟩, Plan.goal_run fun vs hf => ⟨wants_none rfl, OpT.conv (OpT.evs (ev' := evL [(4, .bool r1)]) (opT_move (v := .bool r1) rfl rfl) rfl [.tmp 4] rfl ⟨(hf 1 (mb rfl)), trivial⟩) rfl (fun _ h => Eq.trans h rfl) (fun _ => rfl)⟩, Plan.goal_skip (fun vs hf => wants_some rfl (hf 2 (mb rfl)) (beqF hb1)) (fun vs => rfl) rfl rfl, Plan.goal_skip (fun vs hf => wants_some rfl (hf 2 (mb rfl)) (beqF hb1)) (fun vs => rfl) rfl rfl, Plan.goal_skip (fun vs hf => wants_some rfl (hf 2 (mb rfl)) (beqF hb1)) (fun vs => rfl) rfl rfl, Plan.goal_skip (fun vs hf => wants_some rfl (hf 2 (mb rfl)) (beqF hb1)) (fun vs => rfl) rfl rfl, Plan.goal_run fun vs hf => ⟨wants_none rfl, OpT.conv (OpT.evs (ev' := evL [(5, .bool r1), (9, undef)]) (opT_pick (b := r1) (v := .bool false) rfl rfl (ifF hb1)) rfl [.tmp 5, .tmp 9, .const (.bool false)] rfl ⟨(hf 2 (mb rfl)), (hf 6 (mb rfl)), rfl, trivial⟩) rfl (fun _ h => Eq.trans h rfl) (fun _ => rfl)⟩, Plan.goal_run fun vs hf => ⟨wants_none rfl, OpT.conv (OpT.evs (ev' := evL [(10, .bool false)]) (opT_assign (v := .bool false) rfl rfl) rfl [.tmp 10] rfl ⟨(hf 7 (mb rfl)), trivial⟩) rfl (fun _ h => Eq.trans h rfl) (fun _ => rfl)⟩, trivial⟩
    intro vs aq3 wq3 hf haq3 hsq3
    clear haq2 hsq2
    replace haq3 := haq3.pick' (L' := [(2, .bool false)]) ⟨(congrArg some (show _ = _ from (hf 8 (Nat.le_of_ble_eq_true rfl)))), trivial⟩
    replace hsq3 : St I w0 wq3 [Ch.blk g1 [.int .i64 p0a.1, va0, va1] 27, F] := hsq3
    clear hf vs
    refine nrm ?_
    refine wp_ret ?_
    obtain rfl := Option.some.inj hm
    exact ret_1 haq3 rfl (res_tmp haq3 rfl) ⟨_, rfl, rfl, _, Hp.le.rfl, St.sel (hsq3) 2 [1] rfl rfl⟩
  · replace hm := ifTe hb1 hm
    obtain ⟨r2, e2, hm⟩ := bind_some hm
    obtain ⟨r3, e3, hm⟩ := bind_some hm
    refine wp_draw (L := [(1, .pointer (some ⟨g1, 0, none⟩))]) (C := [F]) { ops := [⟨[0], [], [], [0], fun | [xo0] => xo0 = .agg #[.int .i64 p0a.1, va0, va1] | _ => True, [(1, none)]⟩, ⟨[], [], [], [1], fun | [xo1] => xo1 = .bool r1 | _ => True, [(3, some 0)]⟩, ⟨[], [], [], [2], fun | [xo2] => xo2 = .bool r1 | _ => True, [(4, some 1)]⟩, ⟨[0], [], [], [3], fun | [xo3] => xo3 = .agg #[.int .i64 p0a.1, va0, va1] | _ => True, [(1, none), (5, some 2)]⟩, ⟨[], [], [1, 2], [4], fun | [xo4] => xo4 = .agg #[.int .i64 r2.1, (vg xo4 [1]), (vg xo4 [2])] ∧ Hd (vg xo4 [1]) (r2.2.1).length ∧ Hd (vg xo4 [2]) (r2.2.2).length | _ => True, [(6, some 3), (5, some 2)]⟩, ⟨[0], [], [], [5], fun | [xo5] => xo5 = .agg #[.int .i64 p0a.1, va0, va1] | _ => True, [(1, none), (5, some 2)]⟩, ⟨[1, 2], [], [], [6], fun | [xo6] => xo6 = .bool r3 | _ => True, [(7, some 4), (8, some 5), (5, some 2)]⟩, ⟨[], [], [], [7], fun | [xo7] => xo7 = .bool r3 | _ => True, [(5, some 2), (9, some 6)]⟩, ⟨[], [], [], [8], fun | [xo8] => xo8 = .bool r3 | _ => True, [(10, some 7)]⟩], res := [⟨[], fun _ => Ch.blk g1 [.int .i64 p0a.1, va0, va1] 27⟩, ⟨[4], fun | [xo4] => Ch.own (rSlice 4 rBool) [(vg xo4 [1])] r2.2.1 | _ => Ch.fr (fun _ => none) []⟩, ⟨[4], fun | [xo4] => Ch.own (rSlice 34 (rSlice 3 rInt)) [(vg xo4 [2])] r2.2.2 | _ => Ch.fr (fun _ => none) []⟩], base := [0], pre := [[], [0], [0, 1], [0, 1, 2], [0, 1, 2, 3], [0, 1, 2], [0, 1, 2, 3, 4, 5], [0, 1, 2, 3, 4, 5, 6], [0, 1, 2, 3, 4, 5, 6, 7]], fin := [(2, some 8)], left := [0, 1, 2] } (by kernel_rfl) haq2 hsq2 (perm_sel [0, 1] (m := 2) rfl rfl) (by kernel_rfl) (by kernel_rfl) ?_ ?_
    · exact ⟨Plan.goal_run fun vs hf => ⟨wants_none rfl, OpT.conv (OpT.evs (ev' := evL [(1, .pointer (some ⟨g1, 0, none⟩))]) (opT_load_blk (g := g1) (off := 0) (E := 27) (l := [.int .i64 p0a.1, va0, va1]) (d := [.int .i64 p0a.1, va0, va1]) (u := .agg #[.int .i64 p0a.1, va0, va1]) ti27 rfl rfl rfl rfl rfl rfl) rfl [.tmp 1] rfl ⟨rfl, trivial⟩) rfl (fun _ h => Eq.trans h rfl) (fun _ => rfl)⟩, Plan.goal_run fun vs hf => ⟨wants_none rfl, OpT.conv (OpT.evs (ev' := evL [(3, .agg #[.int .i64 p0a.1, va0, va1])]) (opT_call (args := #[.agg #[.int .i64 p0a.1, va0, va1]]) (first := #[]) (captured := #[]) en46 rfl rfl rfl (c_s_IsValidAutomaton (p0a.1, p0a.2.1, p0a.2.2) _ e1 va0 va1 ra0 ra1)) rfl [.func 46, .tmp 3] rfl ⟨rfl, (hf 0 (mb rfl)), trivial⟩) rfl (fun _ h => h) (fun _ => rfl)⟩, Plan.goal_run fun vs hf => ⟨wants_none rfl, OpT.conv (OpT.evs (ev' := evL [(4, .bool r1)]) (opT_move (v := .bool r1) rfl rfl) rfl [.tmp 4] rfl ⟨(hf 1 (mb rfl)), trivial⟩) rfl (fun _ h => Eq.trans h rfl) (fun _ => rfl)⟩, Plan.goal_run fun vs hf => ⟨wants_some rfl (hf 2 (mb rfl)) (beqT hb1), OpT.conv (OpT.evs (ev' := evL [(1, .pointer (some ⟨g1, 0, none⟩))]) (opT_load_blk (g := g1) (off := 0) (E := 27) (l := [.int .i64 p0a.1, va0, va1]) (d := [.int .i64 p0a.1, va0, va1]) (u := .agg #[.int .i64 p0a.1, va0, va1]) ti27 rfl rfl rfl rfl rfl rfl) rfl [.tmp 1] rfl ⟨rfl, trivial⟩) rfl (fun _ h => Eq.trans h rfl) (fun _ => rfl)⟩, Plan.goal_run fun vs hf => ⟨wants_some rfl (hf 2 (mb rfl)) (beqT hb1), OpT.conv (OpT.evs (ev' := evL [(6, .agg #[.int .i64 p0a.1, va0, va1])]) (OpT.hdk (E := 4) (R := rBool) (xs := r2.2.1) (fun v => vg v [1]) 0 (fun _ => rfl) (OpT.hdk (E := 34) (R := rSlice 3 rInt) (xs := r2.2.2) (fun v => vg v [2]) 1 (fun _ => rfl) (opT_call (args := #[.agg #[.int .i64 p0a.1, va0, va1]]) (first := #[]) (captured := #[]) en60 rfl rfl rfl (c_s_l12Minimize (p0a.1, p0a.2.1, p0a.2.2) _ e2 va0 va1 ra0 ra1)))) rfl [.func 60, .tmp 6] rfl ⟨rfl, (hf 3 (mb rfl)), trivial⟩) rfl (fun _ h => by obtain ⟨⟨h, k1⟩, k0⟩ := h; obtain ⟨_, _, rfl⟩ := h; exact ⟨rfl, k0, k1⟩) (fun _ => rfl)⟩, Plan.goal_run fun vs hf => ⟨wants_some rfl (hf 2 (mb rfl)) (beqT hb1), OpT.conv (OpT.evs (ev' := evL [(1, .pointer (some ⟨g1, 0, none⟩))]) (opT_load_blk (g := g1) (off := 0) (E := 27) (l := [.int .i64 p0a.1, va0, va1]) (d := [.int .i64 p0a.1, va0, va1]) (u := .agg #[.int .i64 p0a.1, va0, va1]) ti27 rfl rfl rfl rfl rfl rfl) rfl [.tmp 1] rfl ⟨rfl, trivial⟩) rfl (fun _ h => Eq.trans h rfl) (fun _ => rfl)⟩, Plan.goal_run fun vs hf => ⟨wants_some rfl (hf 2 (mb rfl)) (beqT hb1), OpT.conv (OpT.evs (ev' := evL [(7, .agg #[.int .i64 r2.1, (vg (vs 4) [1]), (vg (vs 4) [2])]), (8, .agg #[.int .i64 p0a.1, va0, va1])]) (OpT.lend (ls := [Ch.own (rSlice 4 rBool) [(vg (vs 4) [1])] r2.2.1, Ch.own (rSlice 34 (rSlice 3 rInt)) [(vg (vs 4) [2])] r2.2.2]) (gv := fun v => []) (fun _ => trivial) fun J hJ hl hb => opT_call (args := #[.agg #[.int .i64 r2.1, (vg (vs 4) [1]), (vg (vs 4) [2])], .agg #[.int .i64 p0a.1, va0, va1]]) (first := #[]) (captured := #[]) en59 rfl rfl rfl (c_s_EqualAutomata (r2.1, r2.2.1, r2.2.2) (p0a.1, p0a.2.1, p0a.2.2) _ e3 (vg (vs 4) [1]) (vg (vs 4) [2]) va0 va1 (hl _ _ _ (List.Mem.head _)) (hl _ _ _ (List.Mem.tail _ (List.Mem.head _))) (Rep.rd_mono _ ra0 hJ) (Rep.rd_mono _ ra1 hJ))) rfl [.func 59, .tmp 7, .tmp 8] rfl ⟨rfl, (hf 4 (mb rfl)).1, (hf 5 (mb rfl)), trivial⟩) rfl (fun _ h => h) (fun _ => rfl)⟩, Plan.goal_run fun vs hf => ⟨wants_none rfl, OpT.conv (OpT.evs (ev' := evL [(5, .bool r1), (9, .bool r3)]) (opT_pick (b := r1) (v := .bool r3) rfl rfl (ifT hb1)) rfl [.tmp 5, .tmp 9, .const (.bool false)] rfl ⟨(hf 2 (mb rfl)), (hf 6 (mb rfl)), rfl, trivial⟩) rfl (fun _ h => Eq.trans h rfl) (fun _ => rfl)⟩, Plan.goal_run fun vs hf => ⟨wants_none rfl, OpT.conv (OpT.evs (ev' := evL [(10, .bool r3)]) (opT_assign (v := .bool r3) rfl rfl) rfl [.tmp 10] rfl ⟨(hf 7 (mb rfl)), trivial⟩) rfl (fun _ h => Eq.trans h rfl) (fun _ => rfl)⟩, trivial⟩
    intro vs aq4 wq4 hf haq4 hsq4
    clear haq2 hsq2
    replace haq4 := haq4.pick' (L' := [(2, .bool r3)]) ⟨(congrArg some (show _ = _ from (hf 8 (Nat.le_of_ble_eq_true rfl)))), trivial⟩
    replace hsq4 : St I w0 wq4 [Ch.blk g1 [.int .i64 p0a.1, va0, va1] 27, Ch.own (rSlice 4 rBool) [(vg (vs 4) [1])] r2.2.1, Ch.own (rSlice 34 (rSlice 3 rInt)) [(vg (vs 4) [2])] r2.2.2, F] := hsq4
    obtain ⟨v1, ea1⟩ : ∃ x, x = (vg (vs 4) [1]) := ⟨_, rfl⟩
    try rw [← ea1] at haq4
    try rw [← ea1] at hsq4
    clear ea1
    obtain ⟨v2, ea2⟩ : ∃ x, x = (vg (vs 4) [2]) := ⟨_, rfl⟩
    try rw [← ea2] at haq4
    try rw [← ea2] at hsq4
    clear ea2
    clear hf vs
    refine nrm ?_
    refine wp_ret ?_
    obtain rfl := Option.some.inj hm
    exact ret_1 haq4 rfl (res_tmp haq4 rfl) ⟨_, rfl, rfl, _, Hp.le.rfl, St.sel (hsq4) 4 [3] rfl rfl⟩
end Go.Proofs.Ytcihbmdppgpmjaa.D
