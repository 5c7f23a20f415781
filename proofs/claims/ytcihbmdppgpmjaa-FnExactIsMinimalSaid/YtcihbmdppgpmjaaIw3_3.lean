/- Printed by dec.py: models of functions and the walks that show them. -/
import Derived.Test.YtcihbmdppgpmjaaIw2_1
set_option linter.unusedVariables false
set_option linter.unusedSimpArgs false
set_option linter.unnecessarySimpa false
set_option maxRecDepth 100000
namespace Go.Proofs.Ytcihbmdppgpmjaa.D
open Go.RowKit
set_option maxHeartbeats 8000000 in
theorem c_i_nothing (r : Int × (List Bool) × (List (List Int))) (hm : m_i_nothing = some r) {I : Hp} {w0 : World} : Con Try.prog 97 #[] I w0 [] (fun v => ∃ h0 h1 : Value, v = .agg #[.int .i64 r.1, h0, h1]) (fun v => [Ch.own (rSlice 4 rBool) [vg v [1]] r.2.1, Ch.own (rSlice 34 (rSlice 3 rInt)) [vg v [2]] r.2.2]) := by
  refine con_of_wp (n := 6) [] Try.func97 rfl rfl (Nat.le_of_ble_eq_true rfl) (args_all trivial) (fun F w a ha hs => ?_) (fun v => ⟨dp_own (dp_slice dp_bool), dp_own (dp_slice (dp_slice dp_int)), trivial⟩)
  unfold m_i_nothing at hm
  refine wp_seq ?_
  refine wp_region_lit ?_
  refine seq_op ha hs rfl (opT_alloc (l := [.int .i64 0, .slice none 0 0, .slice none 0 0]) tz27 rfl rfl) (List.Perm.refl _) rfl ?_
  rintro _ aq1 wq1 ⟨g1, rfl⟩ haq1 (hsq1 : St I w0 wq1 [Ch.blk g1 [.int .i64 0, .slice none 0 0, .slice none 0 0] 27, F])
  clear ha hs a w
  refine wpList_nil ?_
  replace haq1 := haq1.pick' (L' := [(0, .pointer (some ⟨g1, 0, none⟩))]) ⟨rfl, trivial⟩
  refine nrm ?_
  refine wp_seq ?_
  refine wp_region_lit ?_
  refine seq_op haq1 hsq1 rfl (opT_lit_cpy (E := 4) (R := rBool) (S := rBool) [(.bool false, [.bool false])] [false] cpy_bool (rd_all ⟨rfl, trivial⟩) Try.underlying22 tz4 (by decide) rfl (by decide) (by decide) rfl rfl rfl rfl (us_all ⟨⟨rfl, rfl⟩, trivial⟩)) (List.Perm.refl _) rfl ?_
  rintro v1 aq2 wq2 - haq2 (hsq2 : St I w0 wq2 [Ch.own (rSlice 4 rBool) [v1] ([false]), Ch.blk g1 [.int .i64 0, .slice none 0 0, .slice none 0 0] 27, F])
  clear haq1 hsq1 aq1 wq1
  refine seq_op haq2 hsq2 rfl (opT_lit_cpy (E := 3) (R := rInt) (S := rInt) [(.int .i64 (-1), [.int .i64 (-1)])] [-1] cpy_int (rd_all ⟨rfl, trivial⟩) Try.underlying34 tz3 (by decide) rfl (by decide) (by decide) rfl rfl rfl rfl (us_all ⟨⟨rfl, rfl⟩, trivial⟩)) (List.Perm.refl _) rfl ?_
  rintro v2 aq3 wq3 - haq3 (hsq3 : St I w0 wq3 [Ch.own (rSlice 3 rInt) [v2] ([-1]), Ch.own (rSlice 4 rBool) [v1] ([false]), Ch.blk g1 [.int .i64 0, .slice none 0 0, .slice none 0 0] 27, F])
  clear haq2 hsq2 aq2 wq2
  obtain ⟨r1, e1, hm⟩ := bind_some hm
  refine seq_op haq3 hsq3 rfl (OpT.lend (ls := [Ch.own (rSlice 3 rInt) [v2] ([-1])]) (gv := fun v => [Ch.own (rSlice 3 rInt) [v] r1]) (fun _ => ⟨dp_own (dp_slice dp_int), trivial⟩) fun J hJ hl hb => opT_call (args := #[v2, .int .i64 9]) (first := #[]) (captured := #[]) en148 rfl rfl rfl (c_g_slices_Repeat_S_int_int ([-1]) 9 _ e1 v2 (hl _ _ _ (List.Mem.head _)))) (perm_front (i := 0) rfl) rfl ?_
  rintro v3 aq4 wq4 - haq4 (hsq4 : St I w0 wq4 [Ch.own (rSlice 3 rInt) [v3] r1, Ch.own (rSlice 3 rInt) [v2] ([-1]), Ch.own (rSlice 4 rBool) [v1] ([false]), Ch.blk g1 [.int .i64 0, .slice none 0 0, .slice none 0 0] 27, F])
  clear haq3 hsq3 aq3 wq3
  refine seq_op haq4 hsq4 rfl (opT_lit (E := 34) (R := rSlice 3 rInt) [(v3, [v3])] [r1] Try.underlying23 tz34 (by decide) rfl (by decide) (by decide) rfl rfl rfl rfl (us_all ⟨⟨(Hd.cells (St.hd hsq4 0 rfl).1), rfl⟩, trivial⟩)) (perm_front (i := 0) rfl) rfl ?_
  rintro v4 aq5 wq5 - haq5 (hsq5 : St I w0 wq5 [Ch.own (rSlice 34 (rSlice 3 rInt)) [v4] ([r1]), Ch.own (rSlice 3 rInt) [v2] ([-1]), Ch.own (rSlice 4 rBool) [v1] ([false]), Ch.blk g1 [.int .i64 0, .slice none 0 0, .slice none 0 0] 27, F])
  clear haq4 hsq4 aq4 wq4
  refine seq_op0 haq5 hsq5 (opT_build (zl := [.int .i64 0, .slice none 0 0, .slice none 0 0]) (r := [.int .i64 0, v1, v4]) [(1, [v1]), (2, [v4])] tb27 tz27 rfl rfl ⟨rfl, (Hd.cells (St.hd hsq5 2 rfl).1), rfl, (Hd.cells (St.hd hsq5 0 rfl).1), trivial⟩ rfl) rfl rfl ?_
  rintro u aq6 wq6 hf haq6 hsq6
  obtain rfl := Eq.symm hf
  clear haq5 hsq5 aq5 wq5
  refine seq_op haq6 hsq6 rfl (opT_store_blk (g := g1) (off := 0) (l := [.int .i64 0, .slice none 0 0, .slice none 0 0]) (d := [.int .i64 0, v1, v4]) (E := 27) (u := .agg #[.int .i64 0, v1, v4]) ti27 rfl rfl rfl rfl rfl (allC rfl (allC (Hd.one (St.hd hsq6 2 rfl).1) (allC (Hd.one (St.hd hsq6 0 rfl).1) allN))) (Nat.le_of_ble_eq_true rfl)) (perm_front (i := 3) rfl) rfl ?_
  rintro _ aq7 wq7 - haq7 (hsq7 : St I w0 wq7 [Ch.blk g1 [.int .i64 0, v1, v4] 27, Ch.own (rSlice 34 (rSlice 3 rInt)) [v4] ([r1]), Ch.own (rSlice 3 rInt) [v2] ([-1]), Ch.own (rSlice 4 rBool) [v1] ([false]), F])
  clear haq6 hsq6 aq6 wq6
  refine wpList_nil ?_
  replace haq7 := haq7.pick' (L' := [(0, .pointer (some ⟨g1, 0, none⟩))]) ⟨rfl, trivial⟩
  refine nrm ?_
  refine wp_ret ?_
  obtain rfl := Option.some.inj hm
  exact ret_1 haq7 rfl (res_cell (g := g1) haq7 rfl hsq7 0 rfl ti27 rfl) ⟨_, rfl, ⟨_, _, rfl⟩, _, Hp.le.rfl, St.sel (hsq7) 5 [3, 1, 4] rfl rfl⟩
end Go.Proofs.Ytcihbmdppgpmjaa.D
