/- Printed by dec.py: models of functions and the walks that show them. -/
import Derived.Test.YtcihbmdppgpmjaaCw2_2
set_option linter.unusedVariables false
set_option linter.unusedSimpArgs false
set_option linter.unnecessarySimpa false
set_option maxRecDepth 100000
set_option maxHeartbeats 8000000
namespace Go.Proofs.Ytcihbmdppgpmjaa.D
open Go.RowKit
theorem c_i_Automaton_minimize_3 (p0c : Int) (p1letter : Int) (q0 : Int × (List Bool) × (List (List Int))) (q1 : Int → Option Int) (q2 : List Int) (r : Int × Bool) (hm : m_i_Automaton_minimize_3 p0c p1letter q0 q1 q2 = some r) {I : Hp} {w0 : World} (g0_0 : Nat) (va1 : Value) (va2 : Value) (g0_1 : Nat) (va4 : Value) (g0_2 : Nat) (va6 : Value) (rb0 : I g0_0 = some (.cells #[.int .i64 q0.1, va1, va2] 27 (0, 0))) (ra1 : (rSlice 4 rBool).rd I [va1] q0.2.1) (ra2 : (rSlice 34 (rSlice 3 rInt)).rd I [va2] q0.2.2) (rb1 : I g0_1 = some (.cells #[va4] 122 (0, 0))) (ra4 : fn122 w0 I va4 q1) (rb2 : I g0_2 = some (.cells #[va6] 34 (0, 0))) (ra6 : (rSlice 3 rInt).rd I [va6] q2) : Con Try.prog 114 #[.int .i64 p0c, .int .i64 p1letter, .pointer (some ⟨g0_0, 0, none⟩), .pointer (some ⟨g0_1, 0, none⟩), .pointer (some ⟨g0_2, 0, none⟩)] I w0 [] (fun v => v = .tuple #[.int .i64 r.1, .bool r.2]) (fun v => []) := by
  refine con_of_wp (n := 29) [(0, .int .i64 p0c), (1, .int .i64 p1letter), (2, .pointer (some ⟨g0_0, 0, none⟩)), (3, .pointer (some ⟨g0_1, 0, none⟩)), (4, .pointer (some ⟨g0_2, 0, none⟩))] Try.func114 rfl rfl (Nat.le_of_ble_eq_true rfl) (args_all ⟨rfl, rfl, rfl, rfl, rfl, trivial⟩) (fun F w a ha hs => ?_) (fun v => trivial)
  unfold m_i_Automaton_minimize_3 at hm
  refine wp_seq (wp_region_lit (rn ha hs (sv (opT_assign (v := .int .i64 0) rfl rfl) rfl rfl (sv (opT_assign (v := .bool false) rfl rfl) rfl rfl (enR (L' := [(0, .int .i64 p0c), (1, .int .i64 p1letter), (2, .pointer (some ⟨g0_0, 0, none⟩)), (3, .pointer (some ⟨g0_1, 0, none⟩)), (4, .pointer (some ⟨g0_2, 0, none⟩))]) rfl ?_)))))
  clear ha hs a w;intro a1 w1 A1 S1
  refine nrm (wp_seq ?_)
  obtain ⟨r1, e1, hm⟩ := bind_some hm
  obtain ⟨r2, e2, hm⟩ := bind_some hm
  refine wp_draw (L := [(0, .int .i64 p0c), (1, .int .i64 p1letter), (2, .pointer (some ⟨g0_0, 0, none⟩)), (3, .pointer (some ⟨g0_1, 0, none⟩)), (4, .pointer (some ⟨g0_2, 0, none⟩))]) (C := [F]) { ops := [⟨[], [], [], [0], fun | [xo0] => xo0 = .agg #[.int .i64 q0.1, va1, va2] | _ => True, [(2, none)]⟩, ⟨[], [], [], [1], fun | [xo1] => xo1 = va4 | _ => True, [(3, none)]⟩, ⟨[], [], [], [2], fun | [xo2] => xo2 = .int .i64 p0c | _ => True, [(0, none)]⟩, ⟨[], [], [], [3], fun | [xo3] => xo3 = .int .i64 r1 | _ => True, [(11, some 1), (12, some 2)]⟩, ⟨[], [], [], [4], fun | [xo4] => xo4 = .int .i64 p1letter | _ => True, [(1, none)]⟩, ⟨[], [], [], [5], fun | [xo5] => xo5 = .int .i64 r2 | _ => True, [(10, some 0), (13, some 3), (14, some 4)]⟩, ⟨[], [], [], [6], fun | [xo6] => xo6 = .int .i64 r2 | _ => True, [(15, some 5)]⟩], res := [], base := [], pre := [[], [], [], [1, 2], [], [0, 1, 2, 3, 4], [0, 1, 2, 3, 4, 5]], fin := [(4, none), (9, some 6)], left := [] } (by kernel_rfl) A1 S1 (perm_sel [0] (m := 1) rfl rfl) (by kernel_rfl) (by kernel_rfl) ?_ ?_
  · exact ⟨Plan.goal_run fun vs hf => ⟨wants_none rfl, OpT.conv (OpT.evs (ev' := evL [(2, .pointer (some ⟨g0_0, 0, none⟩))]) (opT_load_fro (g := g0_0) (off := 0) (l := [.int .i64 q0.1, va1, va2]) (d := [.int .i64 q0.1, va1, va2]) (u := .agg #[.int .i64 q0.1, va1, va2]) rb0 ti27 rfl rfl rfl rfl rfl rfl) rfl [.tmp 2] rfl ⟨rfl, trivial⟩) rfl (fun _ h => Eq.trans h rfl) (fun _ => rfl)⟩, Plan.goal_run fun vs hf => ⟨wants_none rfl, OpT.conv (OpT.evs (ev' := evL [(3, .pointer (some ⟨g0_1, 0, none⟩))]) (opT_load_fro (g := g0_1) (off := 0) (l := [va4]) (d := [va4]) (u := va4) rb1 ti122 rfl rfl rfl rfl rfl rfl) rfl [.tmp 3] rfl ⟨rfl, trivial⟩) rfl (fun _ h => Eq.trans h rfl) (fun _ => rfl)⟩, Plan.goal_run fun vs hf => ⟨wants_none rfl, OpT.conv (OpT.evs (ev' := evL [(0, .int .i64 p0c)]) (opT_move (v := .int .i64 p0c) rfl rfl) rfl [.tmp 0] rfl ⟨rfl, trivial⟩) rfl (fun _ h => Eq.trans h rfl) (fun _ => rfl)⟩, Plan.goal_run fun vs hf => ⟨wants_none rfl, OpT.conv (OpT.evs (ev' := evL [(11, va4), (12, .int .i64 p0c)]) (opT_call_clo (v := va4) (args := [.int .i64 p0c]) (ra4.2 _ Hp.le.rfl p0c _ e1  ) rfl rfl rfl) rfl [.tmp 11, .tmp 12] rfl ⟨(hf 1 (mb rfl)), (hf 2 (mb rfl)), trivial⟩) rfl (fun _ h => h) (fun _ => rfl)⟩, Plan.goal_run fun vs hf => ⟨wants_none rfl, OpT.conv (OpT.evs (ev' := evL [(1, .int .i64 p1letter)]) (opT_move (v := .int .i64 p1letter) rfl rfl) rfl [.tmp 1] rfl ⟨rfl, trivial⟩) rfl (fun _ h => Eq.trans h rfl) (fun _ => rfl)⟩, Plan.goal_run fun vs hf => ⟨wants_none rfl, OpT.conv (OpT.evs (ev' := evL [(10, .agg #[.int .i64 q0.1, va1, va2]), (13, .int .i64 r1), (14, .int .i64 p1letter)]) (opT_call (args := #[.agg #[.int .i64 q0.1, va1, va2], .int .i64 r1, .int .i64 p1letter]) (first := #[]) (captured := #[]) en101 rfl rfl rfl (c_i_Automaton_move (q0.1, q0.2.1, q0.2.2) r1 p1letter _ e2 va1 va2 ra1 ra2)) rfl [.func 101, .tmp 10, .tmp 13, .tmp 14] rfl ⟨rfl, (hf 0 (mb rfl)), (hf 3 (mb rfl)), (hf 4 (mb rfl)), trivial⟩) rfl (fun _ h => h) (fun _ => rfl)⟩, Plan.goal_run fun vs hf => ⟨wants_none rfl, OpT.conv (OpT.evs (ev' := evL [(15, .int .i64 r2)]) (opT_assign (v := .int .i64 r2) rfl rfl) rfl [.tmp 15] rfl ⟨(hf 5 (mb rfl)), trivial⟩) rfl (fun _ h => Eq.trans h rfl) (fun _ => rfl)⟩, trivial⟩
  intro vs a2 w2 hf A2 S2
  clear A1 S1
  replace A2 := A2.pick' (L' := [(4, .pointer (some ⟨g0_2, 0, none⟩)), (9, .int .i64 r2)]) ⟨rfl, (congrArg some (show _ = _ from (hf 6 (Nat.le_of_ble_eq_true rfl)))), trivial⟩
  replace S2 : St I w0 w2 [F] := S2
  clear hf vs
  refine nrm (wp_seq (wp_seq (wp_region_lit (rn A2 S2 (sv (opT_move (v := .int .i64 r2) rfl rfl) rfl rfl (sv (opT_cmp (k := .i64) (m := r2) (n := 0) (c := decide (r2 < 0)) rfl rfl rfl rfl rfl) rfl rfl (sv (opT_move (v := .bool (decide (r2 < 0))) rfl rfl) rfl rfl ?_)))))))
  rcases two (decide (r2 < 0)) with hb1 | hb1
  · replace hm := ifFe hb1 hm
    refine svg (g := 2) (d := 18) (want := false) (b := decide (r2 < 0)) rfl rfl rfl hb1 (opT_load_fro (g := g0_2) (off := 0) (l := [va6]) (d := [va6]) (u := va6) rb2 ti34 rfl rfl rfl rfl rfl rfl) rfl (svg (g := 2) (d := 18) (want := false) (b := decide (r2 < 0)) rfl rfl rfl hb1 (opT_move (v := .int .i64 r2) rfl rfl) rfl ?_)
    obtain ⟨x1, e3, hm⟩ := bind_some hm
    refine svg (g := 2) (d := 18) (want := false) (b := decide (r2 < 0)) rfl rfl rfl hb1 (opT_index_hd (xs := q2) (i := r2) (n := 1) (Hd.of_rd ra6) Try.underlying34 ti3 rfl rfl rfl (getI_in e3)) rfl (so0g (g := 2) (d := 18) (want := false) (b := decide (r2 < 0)) rfl rfl rfl hb1 (opT_load_el (S := rInt) (xs := q2) (a := x1) (i := r2) (k := 1) (off := 0) (f := fun (x : Int) => x) ra6 e3 Fld.self ti3 rfl rfl rfl rfl rfl) rfl ?_)
    rintro u a3 w3 hf A3 S3
    obtain rfl := lds_one hf
    clear A2 S2 a2 w2
    refine rn A3 S3 (svg (g := 2) (d := 18) (want := false) (b := decide (r2 < 0)) rfl rfl rfl hb1 (opT_cmp (k := .i64) (m := x1) (n := 0) (c := decide (x1 < 0)) rfl rfl rfl rfl rfl) rfl (sv (opT_pick (b := decide (r2 < 0)) (v := .bool (decide (x1 < 0))) rfl rfl (ifF hb1)) rfl rfl (enR (L' := [(4, .pointer (some ⟨g0_2, 0, none⟩)), (9, .int .i64 r2), (24, .bool (decide (x1 < 0)))]) rfl ?_)))
    clear A3 S3 a3 w3;intro a4 w4 A4 S4
    refine nrm ?_
    rcases two (decide (x1 < 0)) with hb2 | hb2
    · replace hm := ifFe hb2 hm
      refine cnd_false (b := decide (x1 < 0)) A4 rfl rfl hb2 ?_
      refine wp_skip (nrm (wp_seq (wp_region_lit (rn A4 S4 (sv (opT_load_fro (g := g0_2) (off := 0) (l := [va6]) (d := [va6]) (u := va6) rb2 ti34 rfl rfl rfl rfl rfl rfl) rfl rfl (sv (opT_move (v := .int .i64 r2) rfl rfl) rfl rfl ?_))))))
      obtain ⟨x2, e4, hm⟩ := bind_some hm
      refine sv (opT_index_hd (xs := q2) (i := r2) (n := 1) (Hd.of_rd ra6) Try.underlying34 ti3 rfl rfl rfl (getI_in e4)) rfl rfl (so0 (opT_load_el (S := rInt) (xs := q2) (a := x2) (i := r2) (k := 1) (off := 0) (f := fun (x : Int) => x) ra6 e4 Fld.self ti3 rfl rfl rfl rfl rfl) rfl rfl ?_)
      rintro u a5 w5 hf A5 S5
      obtain rfl := lds_one hf
      clear A4 S4 a4 w4
      refine rn A5 S5 (sv (opT_assign (v := .int .i64 x2) rfl rfl) rfl rfl (sv (opT_assign (v := .bool true) rfl rfl) rfl rfl (enR (L' := [(7, .int .i64 x2), (8, .bool true)]) rfl ?_)))
      clear A5 S5 a5 w5;intro a6 w6 A6 S6
      refine nrm (wp_ret ?_)
      obtain rfl := Option.some.inj hm
      exact ret_2 A6 rfl (res_tmp A6 rfl) (res_tmp A6 rfl) ⟨_, rfl, rfl, _, Hp.le.rfl, St.sel (S6) 1 [0] rfl rfl⟩
    replace hm := ifTe hb2 hm
    refine cnd_true (b := decide (x1 < 0)) A4 rfl rfl hb2 ?_
    refine wp_seq (wp_region_lit (rn A4 S4 (sv (opT_assign (v := .int .i64 0) rfl rfl) rfl rfl (sv (opT_assign (v := .bool false) rfl rfl) rfl rfl (enR (L' := [(7, .int .i64 0), (8, .bool false)]) rfl ?_)))))
    clear A4 S4 a4 w4;intro a7 w7 A7 S7
    refine nrm (wp_ret (thenR ?_))
    obtain rfl := Option.some.inj hm
    exact ret_2 A7 rfl (res_tmp A7 rfl) (res_tmp A7 rfl) ⟨_, rfl, rfl, _, Hp.le.rfl, St.sel (S7) 1 [0] rfl rfl⟩
  replace hm := ifTe hb1 hm
  refine ssk (g := 2) (d := 18) (want := false) (b := decide (r2 < 0)) rfl rfl rfl hb1 rfl (ssk (g := 2) (d := 18) (want := false) (b := decide (r2 < 0)) rfl rfl rfl hb1 rfl (ssk (g := 2) (d := 18) (want := false) (b := decide (r2 < 0)) rfl rfl rfl hb1 rfl (ssk (g := 2) (d := 18) (want := false) (b := decide (r2 < 0)) rfl rfl rfl hb1 rfl (ssk (g := 2) (d := 18) (want := false) (b := decide (r2 < 0)) rfl rfl rfl hb1 rfl (sv (opT_pick (b := decide (r2 < 0)) (v := .bool true) rfl rfl (ifT hb1)) rfl rfl (enR (L' := [(4, .pointer (some ⟨g0_2, 0, none⟩)), (9, .int .i64 r2), (24, .bool true)]) rfl ?_))))))
  clear A2 S2 a2 w2;intro a8 w8 A8 S8
  refine nrm (cnd_true (b := true) A8 rfl rfl rfl ?_)
  refine wp_seq (wp_region_lit (rn A8 S8 (sv (opT_assign (v := .int .i64 0) rfl rfl) rfl rfl (sv (opT_assign (v := .bool false) rfl rfl) rfl rfl (enR (L' := [(7, .int .i64 0), (8, .bool false)]) rfl ?_)))))
  clear A8 S8 a8 w8;intro a9 w9 A9 S9
  refine nrm (wp_ret (thenR ?_))
  obtain rfl := Option.some.inj hm
  exact ret_2 A9 rfl (res_tmp A9 rfl) (res_tmp A9 rfl) ⟨_, rfl, rfl, _, Hp.le.rfl, St.sel (S9) 1 [0] rfl rfl⟩
end Go.Proofs.Ytcihbmdppgpmjaa.D
