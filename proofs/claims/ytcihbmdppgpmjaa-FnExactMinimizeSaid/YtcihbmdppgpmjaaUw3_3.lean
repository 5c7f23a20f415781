/- Printed by dec.py: models of functions and the walks that show them. -/
import Derived.Test.YtcihbmdppgpmjaaUw2_1
set_option linter.unusedVariables false
set_option linter.unusedSimpArgs false
set_option linter.unnecessarySimpa false
set_option maxRecDepth 100000
namespace Go.Proofs.Ytcihbmdppgpmjaa.D
open Go.RowKit
set_option maxHeartbeats 8000000 in
theorem c_i_nothing (r : Int × (List Bool) × (List (List Int))) (hm : m_i_nothing = some r) {I : Hp} {w0 : World} : Con Try.prog 97 #[] I w0 [] (fun v => ∃ h0 h1 : Value, v = .agg #[.int .i64 r.1, h0, h1]) (fun v => [Ch.own (rSlice 4 rBool) [vg v [1]] r.2.1, Ch.own (rSlice 34 (rSlice 3 rInt)) [vg v [2]] r.2.2]) := by
  refine con_of_wp (n := 6) [] Try.func97 rfl rfl (Nat.le_of_ble_eq_true rfl) (args_all trivial) (fun F w a ha hs => ?_) (fun v => ⟨dp_own (dp_slice dp_bool), dp_own (dp_slice (dp_slice dp_int)), trivial⟩)
  unfold m_i_nothing at hm
  refine wp_seq ?_
  refine wp_region_lit ?_
  refine seq_op ha hs rfl (opT_alloc (l := [.int .i64 0, .slice none 0 0, .slice none 0 0]) tz27 rfl rfl) (List.Perm.refl _) rfl ?_
  rintro _ a1 w1 ⟨g1, rfl⟩ A1 (S1 : St I w0 w1 [Ch.blk g1 [.int .i64 0, .slice none 0 0, .slice none 0 0] 27, F])
  clear ha hs a w
  refine wpList_nil ?_
  replace A1 := A1.pick' (L' := [(0, .pointer (some ⟨g1, 0, none⟩))]) ⟨rfl, trivial⟩
  refine nrm ?_
  refine wp_seq ?_
  refine wp_region_lit ?_
  refine seq_op A1 S1 rfl (opT_lit_cpy (E := 4) (R := rBool) (S := rBool) [(.bool false, [.bool false])] [false] cpy_bool (rd_all ⟨rfl, trivial⟩) Try.underlying22 tz4 (by decide) rfl (by decide) (by decide) rfl rfl rfl rfl (us_all ⟨⟨rfl, rfl⟩, trivial⟩)) (List.Perm.refl _) rfl ?_
  rintro v1 a2 w2 - A2 (S2 : St I w0 w2 [Ch.own (rSlice 4 rBool) [v1] ([false]), Ch.blk g1 [.int .i64 0, .slice none 0 0, .slice none 0 0] 27, F])
  clear A1 S1 a1 w1
  refine seq_op A2 S2 rfl (opT_lit_cpy (E := 3) (R := rInt) (S := rInt) [(.int .i64 (-1), [.int .i64 (-1)])] [-1] cpy_int (rd_all ⟨rfl, trivial⟩) Try.underlying34 tz3 (by decide) rfl (by decide) (by decide) rfl rfl rfl rfl (us_all ⟨⟨rfl, rfl⟩, trivial⟩)) (List.Perm.refl _) rfl ?_
  rintro v2 a3 w3 - A3 (S3 : St I w0 w3 [Ch.own (rSlice 3 rInt) [v2] ([-1]), Ch.own (rSlice 4 rBool) [v1] ([false]), Ch.blk g1 [.int .i64 0, .slice none 0 0, .slice none 0 0] 27, F])
  clear A2 S2 a2 w2
  obtain ⟨r1, e1, hm⟩ := bind_some hm
  refine seq_op A3 S3 rfl (OpT.lend (ls := [Ch.own (rSlice 3 rInt) [v2] ([-1])]) (gv := fun v => [Ch.own (rSlice 3 rInt) [v] r1]) (fun _ => ⟨dp_own (dp_slice dp_int), trivial⟩) fun J hJ hl hb => opT_call (args := #[v2, .int .i64 9]) (first := #[]) (captured := #[]) en148 rfl rfl rfl (c_g_slices_Repeat_S_int_int ([-1]) 9 _ e1 v2 (hl _ _ _ (List.Mem.head _)))) (perm_front (i := 0) rfl) rfl ?_
  rintro v3 a4 w4 - A4 (S4 : St I w0 w4 [Ch.own (rSlice 3 rInt) [v3] r1, Ch.own (rSlice 3 rInt) [v2] ([-1]), Ch.own (rSlice 4 rBool) [v1] ([false]), Ch.blk g1 [.int .i64 0, .slice none 0 0, .slice none 0 0] 27, F])
  clear A3 S3 a3 w3
  refine seq_op A4 S4 rfl (opT_lit (E := 34) (R := rSlice 3 rInt) [(v3, [v3])] [r1] Try.underlying23 tz34 (by decide) rfl (by decide) (by decide) rfl rfl rfl rfl (us_all ⟨⟨(Hd.cells (St.hd S4 0 rfl).1), rfl⟩, trivial⟩)) (perm_front (i := 0) rfl) rfl ?_
  rintro v4 a5 w5 - A5 (S5 : St I w0 w5 [Ch.own (rSlice 34 (rSlice 3 rInt)) [v4] ([r1]), Ch.own (rSlice 3 rInt) [v2] ([-1]), Ch.own (rSlice 4 rBool) [v1] ([false]), Ch.blk g1 [.int .i64 0, .slice none 0 0, .slice none 0 0] 27, F])
  clear A4 S4 a4 w4
  refine sv A5 S5 (opT_build (zl := [.int .i64 0, .slice none 0 0, .slice none 0 0]) (r := [.int .i64 0, v1, v4]) [(1, [v1]), (2, [v4])] tb27 tz27 rfl rfl ⟨rfl, (Hd.cells (St.hd S5 2 rfl).1), rfl, (Hd.cells (St.hd S5 0 rfl).1), trivial⟩ rfl) rfl rfl ?_
  clear A5 S5 a5 w5;intro a6 w6 A6 S6
  refine seq_op A6 S6 rfl (opT_store_blk (g := g1) (off := 0) (l := [.int .i64 0, .slice none 0 0, .slice none 0 0]) (d := [.int .i64 0, v1, v4]) (E := 27) (u := .agg #[.int .i64 0, v1, v4]) ti27 rfl rfl rfl rfl rfl (allC rfl (allC (Hd.one (St.hd S6 2 rfl).1) (allC (Hd.one (St.hd S6 0 rfl).1) allN))) (Nat.le_of_ble_eq_true rfl)) (perm_front (i := 3) rfl) rfl ?_
  rintro _ a7 w7 - A7 (S7 : St I w0 w7 [Ch.blk g1 [.int .i64 0, v1, v4] 27, Ch.own (rSlice 34 (rSlice 3 rInt)) [v4] ([r1]), Ch.own (rSlice 3 rInt) [v2] ([-1]), Ch.own (rSlice 4 rBool) [v1] ([false]), F])
  clear A6 S6 a6 w6
  refine wpList_nil ?_
  replace A7 := A7.pick' (L' := [(0, .pointer (some ⟨g1, 0, none⟩))]) ⟨rfl, trivial⟩
  refine nrm ?_
  refine wp_ret ?_
  obtain rfl := Option.some.inj hm
  exact ret_1 A7 rfl (res_cell (g := g1) A7 rfl S7 0 rfl ti27 rfl) ⟨_, rfl, ⟨_, _, rfl⟩, _, Hp.le.rfl, St.sel (S7) 5 [3, 1, 4] rfl rfl⟩
end Go.Proofs.Ytcihbmdppgpmjaa.D
