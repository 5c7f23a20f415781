/- Printed by dec.py: models of functions and the walks that show them. -/
import Derived.Test.YtcihbmdppgpmjaaIw2_3
import Derived.Test.YtcihbmdppgpmjaaIw3_2
import Derived.Test.YtcihbmdppgpmjaaIw5_0
set_option linter.unusedVariables false
set_option linter.unusedSimpArgs false
set_option linter.unnecessarySimpa false
set_option maxRecDepth 100000
namespace Go.Proofs.Ytcihbmdppgpmjaa.D
open Go.RowKit
set_option maxHeartbeats 8000000 in
theorem c_w_FnExactIsMinimal (p0aA : Int × (List Bool) × (List (List Int))) (r : Bool) (hm : m_w_FnExactIsMinimal p0aA = some r) {I : Hp} {w0 : World} (va0 : Value) (va1 : Value) (ra0 : (rSlice 4 rBool).rd I [va0] p0aA.2.1) (ra1 : (rSlice 34 (rSlice 3 rInt)).rd I [va1] p0aA.2.2) : Con Try.prog 4 #[.agg #[.int .i64 p0aA.1, va0, va1]] I w0 [] (fun v => v = .bool r) (fun v => []) := by
  refine con_of_wp (n := 27) [(0, .agg #[.int .i64 p0aA.1, va0, va1])] Try.func4 rfl rfl (Nat.le_of_ble_eq_true rfl) (args_all ⟨rfl, trivial⟩) (fun F w a ha hs => ?_) (fun v => trivial)
  unfold m_w_FnExactIsMinimal at hm
  refine wp_seq ?_
  refine wp_region_lit ?_
  refine seq_op ha hs rfl (opT_box (u := .agg #[.int .i64 p0aA.1, va0, va1]) (l := [.int .i64 p0aA.1, va0, va1]) rfl rfl rfl) (List.Perm.refl _) rfl ?_
  rintro _ aq1 wq1 ⟨g1, rfl⟩ haq1 (hsq1 : St I w0 wq1 [Ch.blk g1 [.int .i64 p0aA.1, va0, va1] 25, F])
  clear ha hs a w
  refine seq_op0 haq1 hsq1 (opT_assign (v := .bool false) rfl rfl) rfl rfl ?_
  rintro u aq2 wq2 hf haq2 hsq2
  obtain rfl := Eq.symm hf
  clear haq1 hsq1 aq1 wq1
  refine wpList_nil ?_
  replace haq2 := haq2.pick' (L' := [(1, .pointer (some ⟨g1, 0, none⟩))]) ⟨rfl, trivial⟩
  refine nrm ?_
  refine wp_seq ?_
  refine wp_region_lit ?_
  refine seq_op0 haq2 hsq2 (opT_assign (v := .int .i64 1048576) rfl rfl) rfl rfl ?_
  rintro u aq3 wq3 hf haq3 hsq3
  obtain rfl := Eq.symm hf
  clear haq2 hsq2 aq2 wq2
  refine wpList_nil ?_
  replace haq3 := haq3.pick' (L' := [(1, .pointer (some ⟨g1, 0, none⟩)), (3, .int .i64 1048576)]) ⟨rfl, rfl, trivial⟩
  refine nrm ?_
  refine wp_seq ?_
  refine wp_region_lit ?_
  refine seq_op haq3 hsq3 rfl (opT_load_blk (g := g1) (off := 0) (E := 25) (l := [.int .i64 p0aA.1, va0, va1]) (d := [.int .i64 p0aA.1, va0, va1]) (u := .agg #[.int .i64 p0aA.1, va0, va1]) ti25 rfl rfl rfl rfl rfl rfl) (perm_front (i := 0) rfl) rfl ?_
  rintro u aq4 wq4 hf haq4 (hsq4 : St I w0 wq4 [Ch.blk g1 [.int .i64 p0aA.1, va0, va1] 25, F])
  obtain rfl := Eq.symm hf
  clear haq3 hsq3 aq3 wq3
  refine seq_op0 haq4 hsq4 (opT_move (v := .int .i64 1048576) rfl rfl) rfl rfl ?_
  rintro u aq5 wq5 hf haq5 hsq5
  obtain rfl := Eq.symm hf
  clear haq4 hsq4 aq4 wq4
  obtain ⟨r1, e1, hm⟩ := bind_some hm
  refine seq_op0 haq5 hsq5 (opT_call (args := #[.agg #[.int .i64 p0aA.1, va0, va1], .int .i64 1048576]) (first := #[]) (captured := #[]) en12 rfl rfl rfl (c_w_szAutomaton (p0aA.1, p0aA.2.1, p0aA.2.2) 1048576 _ e1 va0 va1 ra0 ra1)) rfl rfl ?_
  rintro u aq6 wq6 hf haq6 hsq6
  obtain rfl := Eq.symm hf
  clear haq5 hsq5 aq5 wq5
  refine seq_op0 haq6 hsq6 (opT_assign (v := .int .i64 r1) rfl rfl) rfl rfl ?_
  rintro u aq7 wq7 hf haq7 hsq7
  obtain rfl := Eq.symm hf
  clear haq6 hsq6 aq6 wq6
  refine wpList_nil ?_
  replace haq7 := haq7.pick' (L' := [(1, .pointer (some ⟨g1, 0, none⟩)), (3, .int .i64 r1)]) ⟨rfl, rfl, trivial⟩
  refine nrm ?_
  refine wp_seq ?_
  refine wp_seq ?_
  refine wp_region_lit ?_
  refine seq_op0 haq7 hsq7 (opT_move (v := .int .i64 r1) rfl rfl) rfl rfl ?_
  rintro u aq8 wq8 hf haq8 hsq8
  obtain rfl := Eq.symm hf
  clear haq7 hsq7 aq7 wq7
  refine seq_op0 haq8 hsq8 (opT_cmp (k := .i64) (m := r1) (n := 0) (c := decide (r1 < 0)) rfl rfl rfl rfl rfl) rfl rfl ?_
  rintro u aq9 wq9 hf haq9 hsq9
  obtain rfl := Eq.symm hf
  clear haq8 hsq8 aq8 wq8
  refine wpList_nil ?_
  replace haq9 := haq9.pick' (L' := [(1, .pointer (some ⟨g1, 0, none⟩)), (11, .bool (decide (r1 < 0)))]) ⟨rfl, rfl, trivial⟩
  refine nrm ?_
  rcases two (decide (r1 < 0)) with hb1 | hb1
  · replace hm := ifFe hb1 hm
    refine cnd_false (b := decide (r1 < 0)) haq9 rfl rfl hb1 ?_
    refine wp_skip ?_
    refine nrm ?_
    refine wp_seq ?_
    refine wp_region_lit ?_
    refine seq_op haq9 hsq9 rfl (opT_load_blk (g := g1) (off := 0) (E := 25) (l := [.int .i64 p0aA.1, va0, va1]) (d := [.int .i64 p0aA.1, va0, va1]) (u := .agg #[.int .i64 p0aA.1, va0, va1]) ti25 rfl rfl rfl rfl rfl rfl) (perm_front (i := 0) rfl) rfl ?_
    rintro u aq10 wq10 hf haq10 (hsq10 : St I w0 wq10 [Ch.blk g1 [.int .i64 p0aA.1, va0, va1] 25, F])
    obtain rfl := Eq.symm hf
    clear haq9 hsq9 aq9 wq9
    obtain ⟨r2, e2, hm⟩ := bind_some hm
    refine seq_op haq10 hsq10 rfl (opT_call (args := #[.agg #[.int .i64 p0aA.1, va0, va1]]) (first := #[]) (captured := #[]) en14 rfl rfl rfl (c_w_toAutomaton (p0aA.1, p0aA.2.1, p0aA.2.2) _ e2 va0 va1 ra0 ra1)) (List.Perm.refl _) rfl ?_
    rintro u aq11 wq11 ⟨v1, v2, rfl⟩ haq11 (hsq11 : St I w0 wq11 [Ch.own (rSlice 4 rBool) [v1] r2.2.1, Ch.own (rSlice 34 (rSlice 3 rInt)) [v2] r2.2.2, Ch.blk g1 [.int .i64 p0aA.1, va0, va1] 25, F])
    clear haq10 hsq10 aq10 wq10
    obtain ⟨r3, e3, hm⟩ := bind_some hm
    refine seq_op haq11 hsq11 rfl (OpT.lend (ls := [Ch.own (rSlice 4 rBool) [v1] r2.2.1, Ch.own (rSlice 34 (rSlice 3 rInt)) [v2] r2.2.2]) (gv := fun v => []) (fun _ => trivial) fun J hJ hl hb => opT_call (args := #[.agg #[.int .i64 r2.1, v1, v2]]) (first := #[]) (captured := #[]) en19 rfl rfl rfl (c_s_IsMinimal (r2.1, r2.2.1, r2.2.2) _ e3 v1 v2 (hl _ _ _ (List.Mem.head _)) (hl _ _ _ (List.Mem.tail _ (List.Mem.head _))))) (perm_sel [0, 1, 2, 3] (m := 4) rfl rfl) rfl ?_
    rintro u aq12 wq12 hf haq12 (hsq12 : St I w0 wq12 [Ch.own (rSlice 4 rBool) [v1] r2.2.1, Ch.own (rSlice 34 (rSlice 3 rInt)) [v2] r2.2.2, Ch.blk g1 [.int .i64 p0aA.1, va0, va1] 25, F])
    obtain rfl := Eq.symm hf
    clear haq11 hsq11 aq11 wq11
    refine seq_op0 haq12 hsq12 (opT_assign (v := .bool r3) rfl rfl) rfl rfl ?_
    rintro u aq13 wq13 hf haq13 hsq13
    obtain rfl := Eq.symm hf
    clear haq12 hsq12 aq12 wq12
    refine wpList_nil ?_
    replace haq13 := haq13.pick' (L' := [(1, .pointer (some ⟨g1, 0, none⟩)), (4, .bool r3)]) ⟨rfl, rfl, trivial⟩
    refine nrm ?_
    refine wp_seq ?_
    refine wp_region_lit ?_
    refine seq_op haq13 hsq13 rfl (opT_load_blk (g := g1) (off := 0) (E := 25) (l := [.int .i64 p0aA.1, va0, va1]) (d := [.int .i64 p0aA.1, va0, va1]) (u := .agg #[.int .i64 p0aA.1, va0, va1]) ti25 rfl rfl rfl rfl rfl rfl) (perm_front (i := 2) rfl) rfl ?_
    rintro u aq14 wq14 hf haq14 (hsq14 : St I w0 wq14 [Ch.blk g1 [.int .i64 p0aA.1, va0, va1] 25, Ch.own (rSlice 4 rBool) [v1] r2.2.1, Ch.own (rSlice 34 (rSlice 3 rInt)) [v2] r2.2.2, F])
    obtain rfl := Eq.symm hf
    clear haq13 hsq13 aq13 wq13
    obtain ⟨r4, e4, hm⟩ := bind_some hm
    refine seq_op haq14 hsq14 rfl (opT_call (args := #[.agg #[.int .i64 p0aA.1, va0, va1]]) (first := #[]) (captured := #[]) en14 rfl rfl rfl (c_w_toAutomaton (p0aA.1, p0aA.2.1, p0aA.2.2) _ e4 va0 va1 ra0 ra1)) (List.Perm.refl _) rfl ?_
    rintro u aq15 wq15 ⟨v3, v4, rfl⟩ haq15 (hsq15 : St I w0 wq15 [Ch.own (rSlice 4 rBool) [v3] r4.2.1, Ch.own (rSlice 34 (rSlice 3 rInt)) [v4] r4.2.2, Ch.blk g1 [.int .i64 p0aA.1, va0, va1] 25, Ch.own (rSlice 4 rBool) [v1] r2.2.1, Ch.own (rSlice 34 (rSlice 3 rInt)) [v2] r2.2.2, F])
    clear haq14 hsq14 aq14 wq14
    refine seq_op haq15 hsq15 rfl (opT_alloc (l := [.int .i64 0, .slice none 0 0, .slice none 0 0]) tz27 rfl rfl) (List.Perm.refl _) rfl ?_
    rintro _ aq16 wq16 ⟨g2, rfl⟩ haq16 (hsq16 : St I w0 wq16 [Ch.blk g2 [.int .i64 0, .slice none 0 0, .slice none 0 0] 27, Ch.own (rSlice 4 rBool) [v3] r4.2.1, Ch.own (rSlice 34 (rSlice 3 rInt)) [v4] r4.2.2, Ch.blk g1 [.int .i64 p0aA.1, va0, va1] 25, Ch.own (rSlice 4 rBool) [v1] r2.2.1, Ch.own (rSlice 34 (rSlice 3 rInt)) [v2] r2.2.2, F])
    clear haq15 hsq15 aq15 wq15
    refine seq_op haq16 hsq16 rfl (opT_store_blk (g := g2) (off := 0) (l := [.int .i64 0, .slice none 0 0, .slice none 0 0]) (d := [.int .i64 r4.1, v3, v4]) (E := 27) (u := .agg #[.int .i64 r4.1, v3, v4]) ti27 rfl rfl rfl rfl rfl (allC rfl (allC (Hd.one (St.hd hsq16 1 rfl).1) (allC (Hd.one (St.hd hsq16 2 rfl).1) allN))) (Nat.le_of_ble_eq_true rfl)) (perm_front (i := 0) rfl) rfl ?_
    rintro _ aq17 wq17 - haq17 (hsq17 : St I w0 wq17 [Ch.blk g2 [.int .i64 r4.1, v3, v4] 27, Ch.own (rSlice 4 rBool) [v3] r4.2.1, Ch.own (rSlice 34 (rSlice 3 rInt)) [v4] r4.2.2, Ch.blk g1 [.int .i64 p0aA.1, va0, va1] 25, Ch.own (rSlice 4 rBool) [v1] r2.2.1, Ch.own (rSlice 34 (rSlice 3 rInt)) [v2] r2.2.2, F])
    clear haq16 hsq16 aq16 wq16
    refine wpList_nil ?_
    replace haq17 := haq17.pick' (L' := [(1, .pointer (some ⟨g1, 0, none⟩)), (4, .bool r3), (5, .pointer (some ⟨g2, 0, none⟩))]) ⟨rfl, rfl, rfl, trivial⟩
    refine nrm ?_
    refine wp_seq ?_
    refine wp_region_lit ?_
    refine seq_op haq17 hsq17 rfl (opT_load_blk (g := g2) (off := 0) (E := 27) (l := [.int .i64 r4.1, v3, v4]) (d := [.int .i64 r4.1, v3, v4]) (u := .agg #[.int .i64 r4.1, v3, v4]) ti27 rfl rfl rfl rfl rfl rfl) (perm_front (i := 0) rfl) rfl ?_
    rintro u aq18 wq18 hf haq18 (hsq18 : St I w0 wq18 [Ch.blk g2 [.int .i64 r4.1, v3, v4] 27, Ch.own (rSlice 4 rBool) [v3] r4.2.1, Ch.own (rSlice 34 (rSlice 3 rInt)) [v4] r4.2.2, Ch.blk g1 [.int .i64 p0aA.1, va0, va1] 25, Ch.own (rSlice 4 rBool) [v1] r2.2.1, Ch.own (rSlice 34 (rSlice 3 rInt)) [v2] r2.2.2, F])
    obtain rfl := Eq.symm hf
    clear haq17 hsq17 aq17 wq17
    obtain ⟨r5, e5, hm⟩ := bind_some hm
    refine seq_op haq18 hsq18 rfl (OpT.lend (ls := [Ch.own (rSlice 4 rBool) [v3] r4.2.1, Ch.own (rSlice 34 (rSlice 3 rInt)) [v4] r4.2.2]) (gv := fun v => []) (fun _ => trivial) fun J hJ hl hb => opT_call (args := #[.agg #[.int .i64 r4.1, v3, v4]]) (first := #[]) (captured := #[]) en20 rfl rfl rfl (c_i_IsMinimal (r4.1, r4.2.1, r4.2.2) _ e5 v3 v4 (hl _ _ _ (List.Mem.head _)) (hl _ _ _ (List.Mem.tail _ (List.Mem.head _))))) (perm_sel [1, 2, 0, 3, 4, 5, 6] (m := 7) rfl rfl) rfl ?_
    rintro u aq19 wq19 hf haq19 (hsq19 : St I w0 wq19 [Ch.own (rSlice 4 rBool) [v3] r4.2.1, Ch.own (rSlice 34 (rSlice 3 rInt)) [v4] r4.2.2, Ch.blk g2 [.int .i64 r4.1, v3, v4] 27, Ch.blk g1 [.int .i64 p0aA.1, va0, va1] 25, Ch.own (rSlice 4 rBool) [v1] r2.2.1, Ch.own (rSlice 34 (rSlice 3 rInt)) [v2] r2.2.2, F])
    obtain rfl := Eq.symm hf
    clear haq18 hsq18 aq18 wq18
    refine seq_op0 haq19 hsq19 (opT_assign (v := .bool r5) rfl rfl) rfl rfl ?_
    rintro u aq20 wq20 hf haq20 hsq20
    obtain rfl := Eq.symm hf
    clear haq19 hsq19 aq19 wq19
    refine wpList_nil ?_
    replace haq20 := haq20.pick' (L' := [(1, .pointer (some ⟨g1, 0, none⟩)), (4, .bool r3), (5, .pointer (some ⟨g2, 0, none⟩)), (6, .bool r5)]) ⟨rfl, rfl, rfl, rfl, trivial⟩
    refine nrm ?_
    refine wp_seq ?_
    refine wp_seq ?_
    refine wp_region_lit ?_
    refine seq_op0 haq20 hsq20 (opT_move (v := .bool r5) rfl rfl) rfl rfl ?_
    rintro u aq21 wq21 hf haq21 hsq21
    obtain rfl := Eq.symm hf
    clear haq20 hsq20 aq20 wq20
    refine seq_op0 haq21 hsq21 (opT_move (v := .bool r3) rfl rfl) rfl rfl ?_
    rintro u aq22 wq22 hf haq22 hsq22
    obtain rfl := Eq.symm hf
    clear haq21 hsq21 aq21 wq21
    refine seq_op0 haq22 hsq22 (opT_neb (b := r5) (c := r3) Try.underlying4 rfl rfl rfl) rfl rfl ?_
    rintro u aq23 wq23 hf haq23 hsq23
    obtain rfl := Eq.symm hf
    clear haq22 hsq22 aq22 wq22
    refine wpList_nil ?_
    replace haq23 := haq23.pick' (L' := [(1, .pointer (some ⟨g1, 0, none⟩)), (5, .pointer (some ⟨g2, 0, none⟩)), (21, .bool (r5 != r3))]) ⟨rfl, rfl, rfl, trivial⟩
    refine nrm ?_
    rcases two (r5 != r3) with hb2 | hb2
    · replace hm := ifFe hb2 hm
      refine cnd_false (b := r5 != r3) haq23 rfl rfl hb2 ?_
      refine wp_skip ?_
      refine nrm ?_
      refine wp_seq ?_
      refine wp_seq ?_
      obtain ⟨r6, e6, hm⟩ := bind_some hm
      obtain ⟨r7, e7, hm⟩ := bind_some hm
      refine wp_draw (L := [(1, .pointer (some ⟨g1, 0, none⟩)), (5, .pointer (some ⟨g2, 0, none⟩)), (21, .bool (r5 != r3))]) (C := [Ch.own (rSlice 4 rBool) [v1] r2.2.1, Ch.own (rSlice 34 (rSlice 3 rInt)) [v2] r2.2.2, F]) { ops := [⟨[0], [], [], [0], fun | [xo0] => xo0 = .agg #[.int .i64 r4.1, v3, v4] | _ => True, [(5, none)]⟩, ⟨[1], [], [], [1], fun | [xo1] => xo1 = .agg #[.int .i64 p0aA.1, va0, va1] | _ => True, [(1, none)]⟩, ⟨[], [], [4, 5], [2], fun | [xo2] => xo2 = .agg #[.int .i64 r6.1, (vg xo2 [1]), (vg xo2 [2])] ∧ Hd (vg xo2 [1]) (r6.2.1).length ∧ Hd (vg xo2 [2]) (r6.2.2).length | _ => True, [(23, some 1)]⟩, ⟨[2, 3, 4, 5], [], [], [3], fun | [xo3] => xo3 = .bool r7 | _ => True, [(22, some 0), (24, some 2)]⟩, ⟨[], [], [], [4], fun | [xo4] => xo4 = .bool (!r7) | _ => True, [(25, some 3)]⟩], res := [⟨[], fun _ => Ch.blk g2 [.int .i64 r4.1, v3, v4] 27⟩, ⟨[], fun _ => Ch.blk g1 [.int .i64 p0aA.1, va0, va1] 25⟩, ⟨[], fun _ => Ch.own (rSlice 4 rBool) [v3] r4.2.1⟩, ⟨[], fun _ => Ch.own (rSlice 34 (rSlice 3 rInt)) [v4] r4.2.2⟩, ⟨[2], fun | [xo2] => Ch.own (rSlice 4 rBool) [(vg xo2 [1])] r6.2.1 | _ => Ch.fr (fun _ => none) []⟩, ⟨[2], fun | [xo2] => Ch.own (rSlice 34 (rSlice 3 rInt)) [(vg xo2 [2])] r6.2.2 | _ => Ch.fr (fun _ => none) []⟩], base := [0, 1, 2, 3], pre := [[], [], [1], [0, 1, 2], [0, 1, 2, 3]], fin := [(26, some 4)], left := [0, 1, 2, 3, 4, 5] } (by kernel_rfl) haq23 hsq23 (perm_sel [2, 3, 0, 1, 4, 5, 6] (m := 7) rfl rfl) (by kernel_rfl) (by kernel_rfl) ?_ ?_
      · exact ⟨Plan.goal_run fun vs hf => ⟨wants_none rfl, OpT.conv (OpT.evs (ev' := evL [(5, .pointer (some ⟨g2, 0, none⟩))]) (opT_load_blk (g := g2) (off := 0) (E := 27) (l := [.int .i64 r4.1, v3, v4]) (d := [.int .i64 r4.1, v3, v4]) (u := .agg #[.int .i64 r4.1, v3, v4]) ti27 rfl rfl rfl rfl rfl rfl) rfl [.tmp 5] rfl ⟨rfl, trivial⟩) rfl (fun _ h => Eq.trans h rfl) (fun _ => rfl)⟩, Plan.goal_run fun vs hf => ⟨wants_none rfl, OpT.conv (OpT.evs (ev' := evL [(1, .pointer (some ⟨g1, 0, none⟩))]) (opT_load_blk (g := g1) (off := 0) (E := 25) (l := [.int .i64 p0aA.1, va0, va1]) (d := [.int .i64 p0aA.1, va0, va1]) (u := .agg #[.int .i64 p0aA.1, va0, va1]) ti25 rfl rfl rfl rfl rfl rfl) rfl [.tmp 1] rfl ⟨rfl, trivial⟩) rfl (fun _ h => Eq.trans h rfl) (fun _ => rfl)⟩, Plan.goal_run fun vs hf => ⟨wants_none rfl, OpT.conv (OpT.evs (ev' := evL [(23, .agg #[.int .i64 p0aA.1, va0, va1])]) (OpT.hdk (E := 4) (R := rBool) (xs := r6.2.1) (fun v => vg v [1]) 0 (fun _ => rfl) (OpT.hdk (E := 34) (R := rSlice 3 rInt) (xs := r6.2.2) (fun v => vg v [2]) 1 (fun _ => rfl) (opT_call (args := #[.agg #[.int .i64 p0aA.1, va0, va1]]) (first := #[]) (captured := #[]) en14 rfl rfl rfl (c_w_toAutomaton (p0aA.1, p0aA.2.1, p0aA.2.2) _ e6 va0 va1 ra0 ra1)))) rfl [.func 14, .tmp 23] rfl ⟨rfl, (hf 1 (mb rfl)), trivial⟩) rfl (fun _ h => by obtain ⟨⟨h, k1⟩, k0⟩ := h; obtain ⟨_, _, rfl⟩ := h; exact ⟨rfl, k0, k1⟩) (fun _ => rfl)⟩, Plan.goal_run fun vs hf => ⟨wants_none rfl, OpT.conv (OpT.evs (ev' := evL [(22, .agg #[.int .i64 r4.1, v3, v4]), (24, .agg #[.int .i64 r6.1, (vg (vs 2) [1]), (vg (vs 2) [2])])]) (OpT.lend (ls := [Ch.own (rSlice 4 rBool) [v3] r4.2.1, Ch.own (rSlice 34 (rSlice 3 rInt)) [v4] r4.2.2, Ch.own (rSlice 4 rBool) [(vg (vs 2) [1])] r6.2.1, Ch.own (rSlice 34 (rSlice 3 rInt)) [(vg (vs 2) [2])] r6.2.2]) (gv := fun v => []) (fun _ => trivial) fun J hJ hl hb => opT_call (args := #[.agg #[.int .i64 r4.1, v3, v4], .agg #[.int .i64 r6.1, (vg (vs 2) [1]), (vg (vs 2) [2])]]) (first := #[]) (captured := #[]) en16 rfl rfl rfl (c_w_eqAutomaton (r4.1, r4.2.1, r4.2.2) (r6.1, r6.2.1, r6.2.2) _ e7 v3 v4 (vg (vs 2) [1]) (vg (vs 2) [2]) (hl _ _ _ (List.Mem.head _)) (hl _ _ _ (List.Mem.tail _ (List.Mem.head _))) (hl _ _ _ (List.Mem.tail _ (List.Mem.tail _ (List.Mem.head _)))) (hl _ _ _ (List.Mem.tail _ (List.Mem.tail _ (List.Mem.tail _ (List.Mem.head _))))))) rfl [.func 16, .tmp 22, .tmp 24] rfl ⟨rfl, (hf 0 (mb rfl)), (hf 2 (mb rfl)).1, trivial⟩) rfl (fun _ h => h) (fun _ => rfl)⟩, Plan.goal_run fun vs hf => ⟨wants_none rfl, OpT.conv (OpT.evs (ev' := evL [(25, .bool r7)]) (opT_not (b := r7) rfl rfl) rfl [.tmp 25] rfl ⟨(hf 3 (mb rfl)), trivial⟩) rfl (fun _ h => Eq.trans h rfl) (fun _ => rfl)⟩, trivial⟩
      intro vs aq24 wq24 hf haq24 hsq24
      clear haq23 hsq23
      replace haq24 := haq24.pick' (L' := [(26, .bool (!r7))]) ⟨(congrArg some (show _ = _ from (hf 4 (Nat.le_of_ble_eq_true rfl)))), trivial⟩
      replace hsq24 : St I w0 wq24 [Ch.blk g2 [.int .i64 r4.1, v3, v4] 27, Ch.blk g1 [.int .i64 p0aA.1, va0, va1] 25, Ch.own (rSlice 4 rBool) [v3] r4.2.1, Ch.own (rSlice 34 (rSlice 3 rInt)) [v4] r4.2.2, Ch.own (rSlice 4 rBool) [(vg (vs 2) [1])] r6.2.1, Ch.own (rSlice 34 (rSlice 3 rInt)) [(vg (vs 2) [2])] r6.2.2, Ch.own (rSlice 4 rBool) [v1] r2.2.1, Ch.own (rSlice 34 (rSlice 3 rInt)) [v2] r2.2.2, F] := hsq24
      obtain ⟨v5, ea1⟩ : ∃ x, x = (vg (vs 2) [1]) := ⟨_, rfl⟩
      try rw [← ea1] at haq24
      try rw [← ea1] at hsq24
      clear ea1
      obtain ⟨v6, ea2⟩ : ∃ x, x = (vg (vs 2) [2]) := ⟨_, rfl⟩
      try rw [← ea2] at haq24
      try rw [← ea2] at hsq24
      clear ea2
      clear hf vs
      refine nrm ?_
      rcases two (r7) with hb3 | hb3
      · replace hm := ifFe hb3 hm
        refine cnd_true (b := !r7) haq24 rfl rfl (notT hb3) ?_
        refine wp_seq ?_
        refine wp_region_lit ?_
        refine seq_op0 haq24 hsq24 (opT_assign (v := .bool false) rfl rfl) rfl rfl ?_
        rintro u aq25 wq25 hf haq25 hsq25
        obtain rfl := Eq.symm hf
        clear haq24 hsq24 aq24 wq24
        refine wpList_nil ?_
        replace haq25 := haq25.pick' (L' := [(2, .bool false)]) ⟨rfl, trivial⟩
        refine nrm ?_
        refine wp_ret ?_
        refine thenR ?_
        obtain rfl := Option.some.inj hm
        exact ret_1 haq25 rfl (res_tmp haq25 rfl) ⟨_, rfl, rfl, _, Hp.le.rfl, St.sel (hsq25) 9 [8] rfl rfl⟩
      · replace hm := ifTe hb3 hm
        refine cnd_false (b := !r7) haq24 rfl rfl (notF hb3) ?_
        refine wp_skip ?_
        refine nrm ?_
        refine wp_seq ?_
        refine wp_region_lit ?_
        refine seq_op0 haq24 hsq24 (opT_assign (v := .bool true) rfl rfl) rfl rfl ?_
        rintro u aq26 wq26 hf haq26 hsq26
        obtain rfl := Eq.symm hf
        clear haq24 hsq24 aq24 wq24
        refine wpList_nil ?_
        replace haq26 := haq26.pick' (L' := [(2, .bool true)]) ⟨rfl, trivial⟩
        refine nrm ?_
        refine wp_ret ?_
        obtain rfl := Option.some.inj hm
        exact ret_1 haq26 rfl (res_tmp haq26 rfl) ⟨_, rfl, rfl, _, Hp.le.rfl, St.sel (hsq26) 9 [8] rfl rfl⟩
    · replace hm := ifTe hb2 hm
      refine cnd_true (b := r5 != r3) haq23 rfl rfl hb2 ?_
      refine wp_seq ?_
      refine wp_region_lit ?_
      refine seq_op0 haq23 hsq23 (opT_assign (v := .bool false) rfl rfl) rfl rfl ?_
      rintro u aq27 wq27 hf haq27 hsq27
      obtain rfl := Eq.symm hf
      clear haq23 hsq23 aq23 wq23
      refine wpList_nil ?_
      replace haq27 := haq27.pick' (L' := [(2, .bool false)]) ⟨rfl, trivial⟩
      refine nrm ?_
      refine wp_ret ?_
      refine thenR ?_
      obtain rfl := Option.some.inj hm
      exact ret_1 haq27 rfl (res_tmp haq27 rfl) ⟨_, rfl, rfl, _, Hp.le.rfl, St.sel (hsq27) 7 [6] rfl rfl⟩
  · replace hm := ifTe hb1 hm
    refine cnd_true (b := decide (r1 < 0)) haq9 rfl rfl hb1 ?_
    refine wp_seq ?_
    refine wp_region_lit ?_
    refine seq_op0 haq9 hsq9 (opT_assign (v := .bool true) rfl rfl) rfl rfl ?_
    rintro u aq28 wq28 hf haq28 hsq28
    obtain rfl := Eq.symm hf
    clear haq9 hsq9 aq9 wq9
    refine wpList_nil ?_
    replace haq28 := haq28.pick' (L' := [(2, .bool true)]) ⟨rfl, trivial⟩
    refine nrm ?_
    refine wp_ret ?_
    refine thenR ?_
    obtain rfl := Option.some.inj hm
    exact ret_1 haq28 rfl (res_tmp haq28 rfl) ⟨_, rfl, rfl, _, Hp.le.rfl, St.sel (hsq28) 2 [1] rfl rfl⟩
end Go.Proofs.Ytcihbmdppgpmjaa.D
