/- Printed by dec.py: models of functions and the walks that show them. -/
import Derived.Test.YtcihbmdppgpmjaaCw0_2
import Derived.Test.YtcihbmdppgpmjaaCw3_1
set_option linter.unusedVariables false
set_option linter.unusedSimpArgs false
set_option linter.unnecessarySimpa false
set_option maxRecDepth 100000
set_option maxHeartbeats 8000000
namespace Go.Proofs.Ytcihbmdppgpmjaa.D
open Go.RowKit
theorem c_s_ComplementAutomaton (p0a : Int × (List Bool) × (List (List Int))) (r : (Int × (List Bool) × (List (List Int))) × Bool) (hm : m_s_ComplementAutomaton p0a = some r) {I : Hp} {w0 : World} (va0 : Value) (va1 : Value) (ra0 : (rSlice 4 rBool).rd I [va0] p0a.2.1) (ra1 : (rSlice 34 (rSlice 3 rInt)).rd I [va1] p0a.2.2) : Con Try.prog 37 #[.agg #[.int .i64 p0a.1, va0, va1]] I w0 [] (fun v => ∃ h0 h1 : Value, v = .tuple #[.agg #[.int .i64 r.1.1, h0, h1], .bool r.2]) (fun v => [Ch.own (rSlice 4 rBool) [vg v [0, 1]] r.1.2.1, Ch.own (rSlice 34 (rSlice 3 rInt)) [vg v [0, 2]] r.1.2.2]) := by
  refine con_of_wp (n := 14) [(0, .agg #[.int .i64 p0a.1, va0, va1])] Try.func37 rfl rfl (Nat.le_of_ble_eq_true rfl) (args_all ⟨rfl, trivial⟩) (fun F w a ha hs => ?_) (fun v => ⟨dp_own (dp_slice dp_bool), dp_own (dp_slice (dp_slice dp_int)), trivial⟩)
  unfold m_s_ComplementAutomaton at hm
  refine wp_seq (wp_region_lit (rn ha hs (sop (opT_box (u := .agg #[.int .i64 p0a.1, va0, va1]) (l := [.int .i64 p0a.1, va0, va1]) rfl rfl rfl) (List.Perm.refl _) rfl rfl ?_)))
  rintro _ a1 w1 ⟨g1, rfl⟩ A1 (S1 : St I w0 w1 [Ch.blk g1 [.int .i64 p0a.1, va0, va1] 27, F])
  clear ha hs a w
  refine rn A1 S1 (sop (opT_alloc (l := [.int .i64 0, .slice none 0 0, .slice none 0 0]) tz27 rfl rfl) (List.Perm.refl _) rfl rfl ?_)
  rintro _ a2 w2 ⟨g2, rfl⟩ A2 (S2 : St I w0 w2 [Ch.blk g2 [.int .i64 0, .slice none 0 0, .slice none 0 0] 27, Ch.blk g1 [.int .i64 p0a.1, va0, va1] 27, F])
  clear A1 S1 a1 w1
  refine rn A2 S2 (sv (opT_assign (v := .bool false) rfl rfl) rfl rfl (enR (L' := [(1, .pointer (some ⟨g1, 0, none⟩)), (2, .pointer (some ⟨g2, 0, none⟩))]) rfl ?_))
  clear A2 S2 a2 w2;intro a3 w3 A3 S3
  refine nrm (wp_seq ?_)
  obtain ⟨r1, e1, hm⟩ := bind_some hm
  obtain ⟨r2, e2, hm⟩ := bind_some hm
  refine wp_draw (L := [(1, .pointer (some ⟨g1, 0, none⟩)), (2, .pointer (some ⟨g2, 0, none⟩))]) (C := [Ch.blk g2 [.int .i64 0, .slice none 0 0, .slice none 0 0] 27, F]) { ops := [⟨[], [], [1, 2], [0], fun | [xo0] => xo0 = .agg #[.int .i64 r1.1, (vg xo0 [1]), (vg xo0 [2])] ∧ Hd (vg xo0 [1]) (r1.2.1).length ∧ Hd (vg xo0 [2]) (r1.2.2).length | _ => True, []⟩, ⟨[0], [], [], [1], fun | [xo1] => xo1 = .agg #[.int .i64 p0a.1, va0, va1] | _ => True, [(1, none)]⟩, ⟨[1, 2], [], [3, 4], [2], fun | [xo2] => xo2 = .tuple #[.agg #[.int .i64 r2.1.1, (vg xo2 [0, 1]), (vg xo2 [0, 2])], .bool r2.2] ∧ Hd (vg xo2 [0, 1]) (r2.1.2.1).length ∧ Hd (vg xo2 [0, 2]) (r2.1.2.2).length | _ => True, [(7, some 0), (8, some 1)]⟩, ⟨[], [], [], [3, 2], fun | [xo3, xo2] => xo3 = .tuple #[.agg #[.int .i64 r2.1.1, (vg xo2 [0, 1]), (vg xo2 [0, 2])], .bool r2.2] | _ => True, [(9, some 2)]⟩, ⟨[], [], [], [4, 2], fun | [xo4, xo2] => xo4 = .agg #[.int .i64 r2.1.1, (vg xo2 [0, 1]), (vg xo2 [0, 2])] | _ => True, [(6, some 3)]⟩, ⟨[], [], [], [5], fun | [xo5] => xo5 = .bool r2.2 | _ => True, [(6, some 3)]⟩, ⟨[], [], [5], [6], fun | [xo6] => xo6 = .pointer (some ⟨bk xo6, 0, none⟩) | _ => True, []⟩, ⟨[], [5], [6], [7], fun | [xo7] => True | _ => True, [(4, some 6), (10, some 4)]⟩, ⟨[], [], [], [8], fun | [xo8] => xo8 = .bool r2.2 | _ => True, [(11, some 5)]⟩], res := [⟨[], fun _ => Ch.blk g1 [.int .i64 p0a.1, va0, va1] 27⟩, ⟨[0], fun | [xo0] => Ch.own (rSlice 4 rBool) [(vg xo0 [1])] r1.2.1 | _ => Ch.fr (fun _ => none) []⟩, ⟨[0], fun | [xo0] => Ch.own (rSlice 34 (rSlice 3 rInt)) [(vg xo0 [2])] r1.2.2 | _ => Ch.fr (fun _ => none) []⟩, ⟨[2], fun | [xo2] => Ch.own (rSlice 4 rBool) [(vg xo2 [0, 1])] r2.1.2.1 | _ => Ch.fr (fun _ => none) []⟩, ⟨[2], fun | [xo2] => Ch.own (rSlice 34 (rSlice 3 rInt)) [(vg xo2 [0, 2])] r2.1.2.2 | _ => Ch.fr (fun _ => none) []⟩, ⟨[6], fun | [xo6] => Ch.blk (bk xo6) [.int .i64 0, .slice none 0 0, .slice none 0 0] 27 | _ => Ch.fr (fun _ => none) []⟩, ⟨[2, 6], fun | [xo2, xo6] => Ch.blk (bk xo6) [.int .i64 r2.1.1, (vg xo2 [0, 1]), (vg xo2 [0, 2])] 27 | _ => Ch.fr (fun _ => none) []⟩], base := [0], pre := [[], [], [0, 1], [0, 1, 2], [0, 1, 2, 3], [0, 1, 2, 3], [], [0, 1, 2, 3, 4, 6], [0, 1, 2, 3, 4, 5, 6, 7]], fin := [(2, none), (4, some 6), (5, some 8)], left := [0, 1, 2, 3, 4, 6] } (by kernel_rfl) A3 S3 (perm_sel [1, 0, 2] (m := 3) rfl rfl) (by kernel_rfl) (by kernel_rfl) ?_ ?_
  · exact ⟨Plan.goal_run fun vs hf => ⟨wants_none rfl, OpT.conv (OpT.evs (ev' := evL []) (OpT.hdk (E := 4) (R := rBool) (xs := r1.2.1) (fun v => vg v [1]) 0 (fun _ => rfl) (OpT.hdk (E := 34) (R := rSlice 3 rInt) (xs := r1.2.2) (fun v => vg v [2]) 1 (fun _ => rfl) (opT_call (args := #[]) (first := #[]) (captured := #[]) en76 rfl rfl rfl (c_s_l13All  _ e1  )))) rfl [.func 76] rfl ⟨rfl, trivial⟩) rfl (fun _ h => by obtain ⟨⟨h, k1⟩, k0⟩ := h; obtain ⟨_, _, rfl⟩ := h; exact ⟨rfl, k0, k1⟩) (fun _ => rfl)⟩, Plan.goal_run fun vs hf => ⟨wants_none rfl, OpT.conv (OpT.evs (ev' := evL [(1, .pointer (some ⟨g1, 0, none⟩))]) (opT_load_blk (g := g1) (off := 0) (E := 27) (l := [.int .i64 p0a.1, va0, va1]) (d := [.int .i64 p0a.1, va0, va1]) (u := .agg #[.int .i64 p0a.1, va0, va1]) ti27 rfl rfl rfl rfl rfl rfl) rfl [.tmp 1] rfl ⟨rfl, trivial⟩) rfl (fun _ h => Eq.trans h rfl) (fun _ => rfl)⟩, Plan.goal_run fun vs hf => ⟨wants_none rfl, OpT.conv (OpT.evs (ev' := evL [(7, .agg #[.int .i64 r1.1, (vg (vs 0) [1]), (vg (vs 0) [2])]), (8, .agg #[.int .i64 p0a.1, va0, va1])]) (OpT.comm (OpT.hdk (E := 4) (R := rBool) (xs := r2.1.2.1) (fun v => vg v [0, 1]) 0 (fun _ => rfl) (OpT.hdk (E := 34) (R := rSlice 3 rInt) (xs := r2.1.2.2) (fun v => vg v [0, 2]) 1 (fun _ => rfl) (OpT.lend (ls := [Ch.own (rSlice 4 rBool) [(vg (vs 0) [1])] r1.2.1, Ch.own (rSlice 34 (rSlice 3 rInt)) [(vg (vs 0) [2])] r1.2.2]) (gv := fun v => [Ch.own (rSlice 4 rBool) [vg v [0, 1]] r2.1.2.1, Ch.own (rSlice 34 (rSlice 3 rInt)) [vg v [0, 2]] r2.1.2.2]) (fun _ => ⟨dp_own (dp_slice dp_bool), dp_own (dp_slice (dp_slice dp_int)), trivial⟩) fun J hJ hl hb => opT_call (args := #[.agg #[.int .i64 r1.1, (vg (vs 0) [1]), (vg (vs 0) [2])], .agg #[.int .i64 p0a.1, va0, va1], .int .i64 3]) (first := #[]) (captured := #[]) en71 rfl rfl rfl (c_s_l13Make (r1.1, r1.2.1, r1.2.2) (p0a.1, p0a.2.1, p0a.2.2) 3 _ e2 (vg (vs 0) [1]) (vg (vs 0) [2]) va0 va1 (hl _ _ _ (List.Mem.head _)) (hl _ _ _ (List.Mem.tail _ (List.Mem.head _))) (Rep.rd_mono _ ra0 hJ) (Rep.rd_mono _ ra1 hJ)))))) rfl [.func 71, .tmp 7, .tmp 8, .const (.int .i64 3)] rfl ⟨rfl, (hf 0 (mb rfl)).1, (hf 1 (mb rfl)), rfl, trivial⟩) rfl (fun _ h => by obtain ⟨⟨h, k1⟩, k0⟩ := h; obtain ⟨_, _, rfl⟩ := h; exact ⟨rfl, k0, k1⟩) (fun _ => rfl)⟩, Plan.goal_run fun vs hf => ⟨wants_none rfl, OpT.conv (OpT.evs (ev' := evL [(9, .tuple #[.agg #[.int .i64 r2.1.1, (vg (vs 2) [0, 1]), (vg (vs 2) [0, 2])], .bool r2.2])]) (opT_move (v := .tuple #[.agg #[.int .i64 r2.1.1, (vg (vs 2) [0, 1]), (vg (vs 2) [0, 2])], .bool r2.2]) rfl rfl) rfl [.tmp 9] rfl ⟨(hf 2 (mb rfl)).1, trivial⟩) rfl (fun _ h => Eq.trans h rfl) (fun _ => rfl)⟩, Plan.goal_run fun vs hf => ⟨wants_none rfl, OpT.conv (OpT.evs (ev' := evL [(6, .tuple #[.agg #[.int .i64 r2.1.1, (vg (vs 2) [0, 1]), (vg (vs 2) [0, 2])], .bool r2.2])]) (opT_extract (vs := #[.agg #[.int .i64 r2.1.1, (vg (vs 2) [0, 1]), (vg (vs 2) [0, 2])], .bool r2.2]) (v := .agg #[.int .i64 r2.1.1, (vg (vs 2) [0, 1]), (vg (vs 2) [0, 2])]) rfl rfl rfl) rfl [.tmp 6] rfl ⟨(hf 3 (mb rfl)), trivial⟩) rfl (fun _ h => Eq.trans h rfl) (fun _ => rfl)⟩, Plan.goal_run fun vs hf => ⟨wants_none rfl, OpT.conv (OpT.evs (ev' := evL [(6, .tuple #[.agg #[.int .i64 r2.1.1, (vg (vs 2) [0, 1]), (vg (vs 2) [0, 2])], .bool r2.2])]) (opT_extract (vs := #[.agg #[.int .i64 r2.1.1, (vg (vs 2) [0, 1]), (vg (vs 2) [0, 2])], .bool r2.2]) (v := .bool r2.2) rfl rfl rfl) rfl [.tmp 6] rfl ⟨(hf 3 (mb rfl)), trivial⟩) rfl (fun _ h => Eq.trans h rfl) (fun _ => rfl)⟩, Plan.goal_run fun vs hf => ⟨wants_none rfl, OpT.conv (OpT.evs (ev' := evL []) (opT_alloc (l := [.int .i64 0, .slice none 0 0, .slice none 0 0]) tz27 rfl rfl) rfl [] rfl trivial) rfl (fun _ h => isPt_bk h) (fun _ => rfl)⟩, Plan.goal_run fun vs hf => ⟨wants_none rfl, OpT.conv (OpT.evs (ev' := evL [(4, .pointer (some ⟨(bk (vs 6)), 0, none⟩)), (10, .agg #[.int .i64 r2.1.1, (vg (vs 2) [0, 1]), (vg (vs 2) [0, 2])])]) (opT_store_blk (g := (bk (vs 6))) (off := 0) (l := [.int .i64 0, .slice none 0 0, .slice none 0 0]) (d := [.int .i64 r2.1.1, (vg (vs 2) [0, 1]), (vg (vs 2) [0, 2])]) (E := 27) (u := .agg #[.int .i64 r2.1.1, (vg (vs 2) [0, 1]), (vg (vs 2) [0, 2])]) ti27 rfl rfl rfl rfl rfl (allC rfl (allC (Hd.one (show Hd (vg (vs 2) [0, 1]) (r2.1.2.1).length from (hf 2 (mb rfl)).2.1)) (allC (Hd.one (show Hd (vg (vs 2) [0, 2]) (r2.1.2.2).length from (hf 2 (mb rfl)).2.2)) allN))) (Nat.le_of_ble_eq_true rfl)) rfl [.tmp 4, .tmp 10] rfl ⟨(hf 6 (mb rfl)), (hf 4 (mb rfl)), trivial⟩) rfl (fun _ _ => trivial) (fun _ => rfl)⟩, Plan.goal_run fun vs hf => ⟨wants_none rfl, OpT.conv (OpT.evs (ev' := evL [(11, .bool r2.2)]) (opT_assign (v := .bool r2.2) rfl rfl) rfl [.tmp 11] rfl ⟨(hf 5 (mb rfl)), trivial⟩) rfl (fun _ h => Eq.trans h rfl) (fun _ => rfl)⟩, trivial⟩
  intro vs a4 w4 hf A4 S4
  clear A3 S3
  replace A4 := A4.pick' (L' := [(2, .pointer (some ⟨g2, 0, none⟩)), (4, .pointer (some ⟨(bk (vs 6)), 0, none⟩)), (5, .bool r2.2)]) ⟨rfl, (congrArg some (show _ = _ from (hf 6 (Nat.le_of_ble_eq_true rfl)))), (congrArg some (show _ = _ from (hf 8 (Nat.le_of_ble_eq_true rfl)))), trivial⟩
  replace S4 : St I w0 w4 [Ch.blk g1 [.int .i64 p0a.1, va0, va1] 27, Ch.own (rSlice 4 rBool) [(vg (vs 0) [1])] r1.2.1, Ch.own (rSlice 34 (rSlice 3 rInt)) [(vg (vs 0) [2])] r1.2.2, Ch.own (rSlice 4 rBool) [(vg (vs 2) [0, 1])] r2.1.2.1, Ch.own (rSlice 34 (rSlice 3 rInt)) [(vg (vs 2) [0, 2])] r2.1.2.2, Ch.blk (bk (vs 6)) [.int .i64 r2.1.1, (vg (vs 2) [0, 1]), (vg (vs 2) [0, 2])] 27, Ch.blk g2 [.int .i64 0, .slice none 0 0, .slice none 0 0] 27, F] := S4
  obtain ⟨v1, ea1⟩ : ∃ x, x = (vg (vs 0) [1]) := ⟨_, rfl⟩
  try rw [← ea1] at A4
  try rw [← ea1] at S4
  clear ea1
  obtain ⟨v2, ea2⟩ : ∃ x, x = (vg (vs 0) [2]) := ⟨_, rfl⟩
  try rw [← ea2] at A4
  try rw [← ea2] at S4
  clear ea2
  obtain ⟨v3, ea3⟩ : ∃ x, x = (vg (vs 2) [0, 1]) := ⟨_, rfl⟩
  try rw [← ea3] at A4
  try rw [← ea3] at S4
  clear ea3
  obtain ⟨v4, ea4⟩ : ∃ x, x = (vg (vs 2) [0, 2]) := ⟨_, rfl⟩
  try rw [← ea4] at A4
  try rw [← ea4] at S4
  clear ea4
  obtain ⟨g3, ea5⟩ : ∃ x, x = (bk (vs 6)) := ⟨_, rfl⟩
  try rw [← ea5] at A4
  try rw [← ea5] at S4
  clear ea5
  clear hf vs
  refine nrm (wp_seq (wp_region_lit (rn A4 S4 (sop (opT_load_blk (g := g3) (off := 0) (E := 27) (l := [.int .i64 r2.1.1, v3, v4]) (d := [.int .i64 r2.1.1, v3, v4]) (u := .agg #[.int .i64 r2.1.1, v3, v4]) ti27 rfl rfl rfl rfl rfl rfl) (perm_front (i := 5) rfl) rfl rfl ?_))))
  rintro u a5 w5 hf A5 (S5 : St I w0 w5 [Ch.blk g3 [.int .i64 r2.1.1, v3, v4] 27, Ch.blk g1 [.int .i64 p0a.1, va0, va1] 27, Ch.own (rSlice 4 rBool) [v1] r1.2.1, Ch.own (rSlice 34 (rSlice 3 rInt)) [v2] r1.2.2, Ch.own (rSlice 4 rBool) [v3] r2.1.2.1, Ch.own (rSlice 34 (rSlice 3 rInt)) [v4] r2.1.2.2, Ch.blk g2 [.int .i64 0, .slice none 0 0, .slice none 0 0] 27, F])
  obtain rfl := Eq.symm hf
  clear A4 S4 a4 w4
  refine rn A5 S5 (sv (opT_move (v := .bool r2.2) rfl rfl) rfl rfl (sop (opT_store_blk (g := g2) (off := 0) (l := [.int .i64 0, .slice none 0 0, .slice none 0 0]) (d := [.int .i64 r2.1.1, v3, v4]) (E := 27) (u := .agg #[.int .i64 r2.1.1, v3, v4]) ti27 rfl rfl rfl rfl rfl (allC rfl (allC (Hd.one (St.hd S5 4 rfl).1) (allC (Hd.one (St.hd S5 5 rfl).1) allN))) (Nat.le_of_ble_eq_true rfl)) (perm_front (i := 6) rfl) rfl rfl ?_))
  rintro _ a6 w6 - A6 (S6 : St I w0 w6 [Ch.blk g2 [.int .i64 r2.1.1, v3, v4] 27, Ch.blk g3 [.int .i64 r2.1.1, v3, v4] 27, Ch.blk g1 [.int .i64 p0a.1, va0, va1] 27, Ch.own (rSlice 4 rBool) [v1] r1.2.1, Ch.own (rSlice 34 (rSlice 3 rInt)) [v2] r1.2.2, Ch.own (rSlice 4 rBool) [v3] r2.1.2.1, Ch.own (rSlice 34 (rSlice 3 rInt)) [v4] r2.1.2.2, F])
  clear A5 S5 a5 w5
  refine rn A6 S6 (sv (opT_assign (v := .bool r2.2) rfl rfl) rfl rfl (enR (L' := [(2, .pointer (some ⟨g2, 0, none⟩)), (3, .bool r2.2)]) rfl ?_))
  clear A6 S6 a6 w6;intro a7 w7 A7 S7
  refine nrm (wp_ret ?_)
  obtain rfl := Option.some.inj hm
  exact ret_2 A7 rfl (res_cell (g := g2) A7 rfl S7 0 rfl ti27 rfl) (res_tmp A7 rfl) ⟨_, rfl, ⟨_, _, rfl⟩, _, Hp.le.rfl, St.sel (S7) 8 [5, 6, 7] rfl rfl⟩
end Go.Proofs.Ytcihbmdppgpmjaa.D
