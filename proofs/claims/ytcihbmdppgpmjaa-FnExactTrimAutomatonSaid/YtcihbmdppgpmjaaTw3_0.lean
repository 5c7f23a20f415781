/- Printed by dec.py: models of functions and the walks that show them. -/
import Derived.Test.YtcihbmdppgpmjaaTw0_1
import Derived.Test.YtcihbmdppgpmjaaTw1_0
import Derived.Test.YtcihbmdppgpmjaaTw2_1
set_option linter.unusedVariables false
set_option linter.unusedSimpArgs false
set_option linter.unnecessarySimpa false
set_option maxRecDepth 100000
namespace Go.Proofs.Ytcihbmdppgpmjaa.D
open Go.RowKit
set_option maxHeartbeats 8000000 in
theorem c_s_TrimAutomaton (p0a : Int × (List Bool) × (List (List Int))) (r : Int × (List Bool) × (List (List Int))) (hm : m_s_TrimAutomaton p0a = some r) {I : Hp} {w0 : World} (va0 : Value) (va1 : Value) (ra0 : (rSlice 4 rBool).rd I [va0] p0a.2.1) (ra1 : (rSlice 34 (rSlice 3 rInt)).rd I [va1] p0a.2.2) : Con Try.prog 13 #[.agg #[.int .i64 p0a.1, va0, va1]] I w0 [] (fun v => ∃ h0 h1 : Value, v = .agg #[.int .i64 r.1, h0, h1]) (fun v => [Ch.own (rSlice 4 rBool) [vg v [1]] r.2.1, Ch.own (rSlice 34 (rSlice 3 rInt)) [vg v [2]] r.2.2]) := by
  refine con_of_wp (n := 26) [(0, .agg #[.int .i64 p0a.1, va0, va1])] Try.func13 rfl rfl (Nat.le_of_ble_eq_true rfl) (args_all ⟨rfl, trivial⟩) (fun F w a ha hs => ?_) (fun v => ⟨dp_own (dp_slice dp_bool), dp_own (dp_slice (dp_slice dp_int)), trivial⟩)
  unfold m_s_TrimAutomaton at hm
  refine wp_seq ?_
  refine wp_region_lit ?_
  refine seq_op ha hs rfl (opT_box (u := .agg #[.int .i64 p0a.1, va0, va1]) (l := [.int .i64 p0a.1, va0, va1]) rfl rfl rfl) (List.Perm.refl _) rfl ?_
  rintro _ aq1 wq1 ⟨g1, rfl⟩ haq1 (hsq1 : St I w0 wq1 [Ch.blk g1 [.int .i64 p0a.1, va0, va1] 27, F])
  clear ha hs a w
  refine seq_op haq1 hsq1 rfl (opT_alloc (l := [.int .i64 0, .slice none 0 0, .slice none 0 0]) tz27 rfl rfl) (List.Perm.refl _) rfl ?_
  rintro _ aq2 wq2 ⟨g2, rfl⟩ haq2 (hsq2 : St I w0 wq2 [Ch.blk g2 [.int .i64 0, .slice none 0 0, .slice none 0 0] 27, Ch.blk g1 [.int .i64 p0a.1, va0, va1] 27, F])
  clear haq1 hsq1 aq1 wq1
  refine wpList_nil ?_
  replace haq2 := haq2.pick' (L' := [(1, .pointer (some ⟨g1, 0, none⟩)), (2, .pointer (some ⟨g2, 0, none⟩))]) ⟨rfl, rfl, trivial⟩
  refine nrm ?_
  refine wp_seq ?_
  refine wp_seq ?_
  refine wp_region_lit ?_
  refine seq_op haq2 hsq2 rfl (opT_load_blk (g := g1) (off := 0) (E := 27) (l := [.int .i64 p0a.1, va0, va1]) (d := [.int .i64 p0a.1, va0, va1]) (u := .agg #[.int .i64 p0a.1, va0, va1]) ti27 rfl rfl rfl rfl rfl rfl) (perm_front (i := 1) rfl) rfl ?_
  rintro u aq3 wq3 hf haq3 (hsq3 : St I w0 wq3 [Ch.blk g1 [.int .i64 p0a.1, va0, va1] 27, Ch.blk g2 [.int .i64 0, .slice none 0 0, .slice none 0 0] 27, F])
  obtain rfl := Eq.symm hf
  clear haq2 hsq2 aq2 wq2
  obtain ⟨r1, e1, hm⟩ := bind_some hm
  refine seq_op0 haq3 hsq3 (opT_call (args := #[.agg #[.int .i64 p0a.1, va0, va1]]) (first := #[]) (captured := #[]) en46 rfl rfl rfl (c_s_IsValidAutomaton (p0a.1, p0a.2.1, p0a.2.2) _ e1 va0 va1 ra0 ra1)) rfl rfl ?_
  rintro u aq4 wq4 hf haq4 hsq4
  obtain rfl := Eq.symm hf
  clear haq3 hsq3 aq3 wq3
  refine seq_op0 haq4 hsq4 (opT_not (b := r1) rfl rfl) rfl rfl ?_
  rintro u aq5 wq5 hf haq5 hsq5
  obtain rfl := Eq.symm hf
  clear haq4 hsq4 aq4 wq4
  refine wpList_nil ?_
  replace haq5 := haq5.pick' (L' := [(1, .pointer (some ⟨g1, 0, none⟩)), (2, .pointer (some ⟨g2, 0, none⟩)), (7, .bool (!r1))]) ⟨rfl, rfl, rfl, trivial⟩
  refine nrm ?_
  rcases two (r1) with hb1 | hb1
  · replace hm := ifFe hb1 hm
    refine cnd_true (b := !r1) haq5 rfl rfl (notT hb1) ?_
    refine wp_seq ?_
    refine wp_region_lit ?_
    refine seq_op0 haq5 hsq5 (opT_build (zl := [.int .i64 0, .slice none 0 0, .slice none 0 0]) (r := [.int .i64 0, .slice none 0 0, .slice none 0 0]) [] tb27 tz27 rfl rfl trivial rfl) rfl rfl ?_
    rintro u aq6 wq6 hf haq6 hsq6
    obtain rfl := Eq.symm hf
    clear haq5 hsq5 aq5 wq5
    refine seq_op haq6 hsq6 rfl (opT_store_blk (g := g2) (off := 0) (l := [.int .i64 0, .slice none 0 0, .slice none 0 0]) (d := [.int .i64 0, .slice none 0 0, .slice none 0 0]) (E := 27) (u := .agg #[.int .i64 0, .slice none 0 0, .slice none 0 0]) ti27 rfl rfl rfl rfl rfl (allC rfl (allC rfl (allC rfl allN))) (Nat.le_of_ble_eq_true rfl)) (perm_front (i := 1) rfl) rfl ?_
    rintro _ aq7 wq7 - haq7 (hsq7 : St I w0 wq7 [Ch.blk g2 [.int .i64 0, .slice none 0 0, .slice none 0 0] 27, Ch.blk g1 [.int .i64 p0a.1, va0, va1] 27, F])
    clear haq6 hsq6 aq6 wq6
    refine wpList_nil ?_
    replace haq7 := haq7.pick' (L' := [(2, .pointer (some ⟨g2, 0, none⟩))]) ⟨rfl, trivial⟩
    refine nrm ?_
    refine wp_ret ?_
    refine thenR ?_
    obtain rfl := Option.some.inj hm
    exact ret_1 haq7 rfl (res_cell (g := g2) haq7 rfl hsq7 0 rfl ti27 rfl) ⟨_, rfl, ⟨_, _, rfl⟩, _, Hp.le.rfl, St.sel ((St.nil (St.nil hsq7))) 5 [1, 0, 4] rfl rfl⟩
  · replace hm := ifTe hb1 hm
    refine cnd_false (b := !r1) haq5 rfl rfl (notF hb1) ?_
    refine wp_skip ?_
    refine nrm ?_
    refine wp_seq ?_
    refine wp_region_lit ?_
    refine seq_op haq5 hsq5 rfl (opT_lit0 (E := 3) (R := rInt) Try.underlying34 ti3 rfl) (List.Perm.refl _) rfl ?_
    rintro v1 aq8 wq8 - haq8 (hsq8 : St I w0 wq8 [Ch.own (rSlice 3 rInt) [v1] ([] : List Int), Ch.blk g1 [.int .i64 p0a.1, va0, va1] 27, Ch.blk g2 [.int .i64 0, .slice none 0 0, .slice none 0 0] 27, F])
    clear haq5 hsq5 aq5 wq5
    refine seq_op0 haq8 hsq8 (opT_assign (v := v1) rfl rfl) rfl rfl ?_
    rintro u aq9 wq9 hf haq9 hsq9
    obtain rfl := Eq.symm hf
    clear haq8 hsq8 aq8 wq8
    refine wpList_nil ?_
    replace haq9 := haq9.pick' (L' := [(1, .pointer (some ⟨g1, 0, none⟩)), (2, .pointer (some ⟨g2, 0, none⟩)), (3, v1)]) ⟨rfl, rfl, rfl, trivial⟩
    refine nrm ?_
    refine wp_seq ?_
    refine wp_seq ?_
    refine wp_region_lit ?_
    refine seq_op0 haq9 hsq9 (opT_assign (v := .int .i64 0) rfl rfl) rfl rfl ?_
    rintro u aq10 wq10 hf haq10 hsq10
    obtain rfl := Eq.symm hf
    clear haq9 hsq9 aq9 wq9
    refine wpList_nil ?_
    replace haq10 := haq10.pick' (L' := [(1, .pointer (some ⟨g1, 0, none⟩)), (2, .pointer (some ⟨g2, 0, none⟩)), (3, v1), (4, .int .i64 0)]) ⟨rfl, rfl, rfl, rfl, trivial⟩
    refine nrm ?_
    obtain ⟨o1, hl1, hc1⟩ := bindL_some hm
    refine wp_cut (fun a w => ∃ s4 : (List Int) × Int, o1 = .brk s4 ∧ ∃ v7 : Value, Agr 26 a [(1, .pointer (some ⟨g1, 0, none⟩)), (2, .pointer (some ⟨g2, 0, none⟩)), (3, v7)] ∧ St I w0 w [Ch.own (rSlice 3 rInt) [v7] s4.1, Ch.blk g1 [.int .i64 p0a.1, va0, va1] 27, Ch.blk g2 [.int .i64 0, .slice none 0 0, .slice none 0 0] 27, F]) ?_ ?_
    · refine wp_block (wp_loopM (R := Int × (List Bool) × (List (List Int))) (S := (List Int) × Int) (fun s3 a w => ∃ v8 : Value, Agr 26 a [(1, .pointer (some ⟨g1, 0, none⟩)), (2, .pointer (some ⟨g2, 0, none⟩)), (3, v8), (4, .int .i64 s3.2)] ∧ St I w0 w [Ch.own (rSlice 3 rInt) [v8] s3.1, Ch.blk g1 [.int .i64 p0a.1, va0, va1] 27, Ch.blk g2 [.int .i64 0, .slice none 0 0, .slice none 0 0] 27, F]) hl1 ?_ ?_)
      · exact ⟨v1, haq10.pick' ⟨rfl, rfl, rfl, rfl, trivial⟩, St.sel hsq10 4 [0, 1, 2, 3] rfl rfl⟩
      · rintro s3 o2 hm hf1 aq37 wq37 ⟨v8, haq37, hsq37⟩
        unfold m_s_TrimAutomaton_l0 at hm
        refine wp_seq ?_
        refine wp_seq ?_
        refine wp_region_lit ?_
        refine seq_op0 haq37 hsq37 (opT_move (v := .int .i64 s3.2) rfl rfl) rfl rfl ?_
        rintro u aq38 wq38 hf haq38 hsq38
        obtain rfl := Eq.symm hf
        clear haq37 hsq37 aq37 wq37
        refine seq_op0 haq38 hsq38 (opT_field_addr (g := g1) (b := 0) tf27_1 rfl rfl) rfl rfl ?_
        rintro u aq39 wq39 hf haq39 hsq39
        obtain rfl := Eq.symm hf
        clear haq38 hsq38 aq38 wq38
        refine seq_op haq39 hsq39 rfl (opT_load_blk (g := g1) (off := 1) (E := 27) (l := [.int .i64 p0a.1, va0, va1]) (d := [va0]) (u := va0) ti22 rfl rfl rfl rfl rfl rfl) (perm_front (i := 1) rfl) rfl ?_
        rintro u aq40 wq40 hf haq40 (hsq40 : St I w0 wq40 [Ch.blk g1 [.int .i64 p0a.1, va0, va1] 27, Ch.own (rSlice 3 rInt) [v8] s3.1, Ch.blk g2 [.int .i64 0, .slice none 0 0, .slice none 0 0] 27, F])
        obtain rfl := Eq.symm hf
        clear haq39 hsq39 aq39 wq39
        refine seq_op0 haq40 hsq40 (opT_len_hd (v := va0) (n := p0a.2.1.length) (Hd.of_rd ra0) Try.underlying22 rfl rfl) rfl rfl ?_
        rintro u aq41 wq41 hf haq41 hsq41
        obtain rfl := Eq.symm hf
        clear haq40 hsq40 aq40 wq40
        refine seq_op0 haq41 hsq41 (opT_cmp (k := .i64) (m := s3.2) (n := (p0a.2.1.length : Int)) (c := decide (s3.2 < (p0a.2.1.length : Int))) rfl rfl rfl rfl rfl) rfl rfl ?_
        rintro u aq42 wq42 hf haq42 hsq42
        obtain rfl := Eq.symm hf
        clear haq41 hsq41 aq41 wq41
        refine wpList_nil ?_
        replace haq42 := haq42.pick' (L' := [(1, .pointer (some ⟨g1, 0, none⟩)), (2, .pointer (some ⟨g2, 0, none⟩)), (3, v8), (4, .int .i64 s3.2), (14, .bool (decide (s3.2 < (p0a.2.1.length : Int))))]) ⟨rfl, rfl, rfl, rfl, rfl, trivial⟩
        refine nrm ?_
        rcases two (decide (s3.2 < (p0a.2.1.length : Int))) with hb4 | hb4
        · replace hm := ifFe hb4 hm
          refine cnd_false (b := decide (s3.2 < (p0a.2.1.length : Int))) haq42 rfl rfl hb4 ?_
          refine wp_exit ?_
          refine thenX ?_
          refine thenX ?_
          refine ex_in ?_
          refine nrm ?_
          exact ⟨_, loopBrk hm hf1, ⟨v8, haq42.pick' ⟨rfl, rfl, rfl, trivial⟩, St.sel hsq42 4 [1, 0, 2, 3] rfl rfl⟩⟩
        · replace hm := ifTe hb4 hm
          refine cnd_true (b := decide (s3.2 < (p0a.2.1.length : Int))) haq42 rfl rfl hb4 ?_
          refine wp_skip ?_
          refine nrm ?_
          refine wp_seq ?_
          refine wp_block ?_
          refine wp_region_lit ?_
          refine seq_op0 haq42 hsq42 (opT_move (v := v8) rfl rfl) rfl rfl ?_
          rintro u aq43 wq43 hf haq43 hsq43
          obtain rfl := Eq.symm hf
          clear haq42 hsq42 aq42 wq42
          refine seq_op0 haq43 hsq43 (opT_move (v := .int .i64 s3.2) rfl rfl) rfl rfl ?_
          rintro u aq44 wq44 hf haq44 hsq44
          obtain rfl := Eq.symm hf
          clear haq43 hsq43 aq43 wq43
          refine seq_op haq44 hsq44 rfl (opT_lit_cpy (E := 3) (R := rInt) (S := rInt) [(.int .i64 s3.2, [.int .i64 s3.2])] [s3.2] cpy_int (rd_all ⟨rfl, trivial⟩) Try.underlying34 tz3 (by decide) rfl (by decide) (by decide) rfl rfl rfl rfl (us_all ⟨⟨rfl, rfl⟩, trivial⟩)) (List.Perm.refl _) rfl ?_
          rintro v9 aq45 wq45 - haq45 (hsq45 : St I w0 wq45 [Ch.own (rSlice 3 rInt) [v9] ([s3.2]), Ch.blk g1 [.int .i64 p0a.1, va0, va1] 27, Ch.own (rSlice 3 rInt) [v8] s3.1, Ch.blk g2 [.int .i64 0, .slice none 0 0, .slice none 0 0] 27, F])
          clear haq44 hsq44 aq44 wq44
          obtain ⟨z3, e4, hm⟩ := bind_some hm
          refine seq_op haq45 hsq45 rfl (opT_app (E := 3) (R := rInt) (s := v8) (u := v9) e4 Try.underlying34 tz3 rfl (by decide) rfl (by decide) rfl rfl rfl) (perm_sel [2, 0, 1, 3, 4] (m := 5) rfl rfl) rfl ?_
          rintro v10 aq46 wq46 - haq46 (hsq46 : St I w0 wq46 [Ch.own (rSlice 3 rInt) [v10] z3, Ch.blk g1 [.int .i64 p0a.1, va0, va1] 27, Ch.blk g2 [.int .i64 0, .slice none 0 0, .slice none 0 0] 27, F])
          clear haq45 hsq45 aq45 wq45
          refine seq_op0 haq46 hsq46 (opT_assign (v := v10) rfl rfl) rfl rfl ?_
          rintro u aq47 wq47 hf haq47 hsq47
          obtain rfl := Eq.symm hf
          clear haq46 hsq46 aq46 wq46
          refine wpList_nil ?_
          replace haq47 := haq47.pick' (L' := [(1, .pointer (some ⟨g1, 0, none⟩)), (2, .pointer (some ⟨g2, 0, none⟩)), (3, v10), (4, .int .i64 s3.2)]) ⟨rfl, rfl, rfl, rfl, trivial⟩
          refine nrmB ?_
          refine nrm ?_
          refine wp_region_lit ?_
          refine seq_op0 haq47 hsq47 (opT_move (v := .int .i64 s3.2) rfl rfl) rfl rfl ?_
          rintro u aq48 wq48 hf haq48 hsq48
          obtain rfl := Eq.symm hf
          clear haq47 hsq47 aq47 wq47
          refine seq_op0 haq48 hsq48 (opT_add (m := s3.2) (n := 1) rfl rfl rfl) rfl rfl ?_
          rintro u aq49 wq49 hf haq49 hsq49
          obtain rfl := Eq.symm hf
          clear haq48 hsq48 aq48 wq48
          refine seq_op0 haq49 hsq49 (opT_assign (v := .int .i64 (IntKind.i64.wrap (s3.2 + 1))) rfl rfl) rfl rfl ?_
          rintro u aq50 wq50 hf haq50 hsq50
          obtain rfl := Eq.symm hf
          clear haq49 hsq49 aq49 wq49
          refine wpList_nil ?_
          replace haq50 := haq50.pick' (L' := [(1, .pointer (some ⟨g1, 0, none⟩)), (2, .pointer (some ⟨g2, 0, none⟩)), (3, v10), (4, .int .i64 (IntKind.i64.wrap (s3.2 + 1)))]) ⟨rfl, rfl, rfl, rfl, trivial⟩
          refine nrm ?_
          exact ⟨_, (Option.some.inj hm).symm, ⟨v10, haq50.pick' ⟨rfl, rfl, rfl, rfl, trivial⟩, St.sel hsq50 4 [0, 1, 2, 3] rfl rfl⟩⟩
    · rintro aq51 wq51 ⟨s4, ho1, v7, haq51, hsq51⟩
      replace hm := loopOut ho1 hc1
      clear ho1 hc1 hl1
      refine nrm ?_
      refine wp_seq ?_
      obtain ⟨r2, e5, hm⟩ := bind_some hm
      obtain ⟨r3, e6, hm⟩ := bind_some hm
      refine wp_draw (L := [(1, .pointer (some ⟨g1, 0, none⟩)), (2, .pointer (some ⟨g2, 0, none⟩)), (3, v7)]) (C := [F]) { ops := [⟨[0], [], [], [0], fun | [xo0] => xo0 = .agg #[.int .i64 p0a.1, va0, va1] | _ => True, [(1, none)]⟩, ⟨[], [], [], [1], fun | [xo1] => xo1 = v7 | _ => True, [(3, none)]⟩, ⟨[0], [], [], [2], fun | [xo2] => xo2 = .agg #[.int .i64 p0a.1, va0, va1] | _ => True, [(1, none)]⟩, ⟨[], [], [3], [3], fun | [xo3] => Hd xo3 (r2).length | _ => True, [(23, some 2)]⟩, ⟨[1, 3], [], [4, 5], [4], fun | [xo4] => xo4 = .agg #[.int .i64 r3.1, (vg xo4 [1]), (vg xo4 [2])] ∧ Hd (vg xo4 [1]) (r3.2.1).length ∧ Hd (vg xo4 [2]) (r3.2.2).length | _ => True, [(21, some 0), (22, some 1), (24, some 3)]⟩, ⟨[], [2], [6], [5], fun | [xo5] => True | _ => True, [(2, none), (25, some 4)]⟩], res := [⟨[], fun _ => Ch.blk g1 [.int .i64 p0a.1, va0, va1] 27⟩, ⟨[], fun _ => Ch.own (rSlice 3 rInt) [v7] s4.1⟩, ⟨[], fun _ => Ch.blk g2 [.int .i64 0, .slice none 0 0, .slice none 0 0] 27⟩, ⟨[3], fun | [xo3] => Ch.own (rSlice 4 rBool) [xo3] r2 | _ => Ch.fr (fun _ => none) []⟩, ⟨[4], fun | [xo4] => Ch.own (rSlice 4 rBool) [(vg xo4 [1])] r3.2.1 | _ => Ch.fr (fun _ => none) []⟩, ⟨[4], fun | [xo4] => Ch.own (rSlice 34 (rSlice 3 rInt)) [(vg xo4 [2])] r3.2.2 | _ => Ch.fr (fun _ => none) []⟩, ⟨[4], fun | [xo4] => Ch.blk g2 [.int .i64 r3.1, (vg xo4 [1]), (vg xo4 [2])] 27 | _ => Ch.fr (fun _ => none) []⟩], base := [0, 1, 2], pre := [[], [], [], [2], [0, 1, 2, 3], [0, 1, 2, 3, 4]], fin := [(2, none)], left := [0, 1, 3, 4, 5, 6] } (by kernel_rfl) haq51 hsq51 (perm_sel [1, 0, 2, 3] (m := 4) rfl rfl) (by kernel_rfl) (by kernel_rfl) ?_ ?_
      · exact ⟨Plan.goal_run fun vs hf => ⟨wants_none rfl, OpT.conv (OpT.evs (ev' := evL [(1, .pointer (some ⟨g1, 0, none⟩))]) (opT_load_blk (g := g1) (off := 0) (E := 27) (l := [.int .i64 p0a.1, va0, va1]) (d := [.int .i64 p0a.1, va0, va1]) (u := .agg #[.int .i64 p0a.1, va0, va1]) ti27 rfl rfl rfl rfl rfl rfl) rfl [.tmp 1] rfl ⟨rfl, trivial⟩) rfl (fun _ h => Eq.trans h rfl) (fun _ => rfl)⟩, Plan.goal_run fun vs hf => ⟨wants_none rfl, OpT.conv (OpT.evs (ev' := evL [(3, v7)]) (opT_move (v := v7) rfl rfl) rfl [.tmp 3] rfl ⟨rfl, trivial⟩) rfl (fun _ h => Eq.trans h rfl) (fun _ => rfl)⟩, Plan.goal_run fun vs hf => ⟨wants_none rfl, OpT.conv (OpT.evs (ev' := evL [(1, .pointer (some ⟨g1, 0, none⟩))]) (opT_load_blk (g := g1) (off := 0) (E := 27) (l := [.int .i64 p0a.1, va0, va1]) (d := [.int .i64 p0a.1, va0, va1]) (u := .agg #[.int .i64 p0a.1, va0, va1]) ti27 rfl rfl rfl rfl rfl rfl) rfl [.tmp 1] rfl ⟨rfl, trivial⟩) rfl (fun _ h => Eq.trans h rfl) (fun _ => rfl)⟩, Plan.goal_run fun vs hf => ⟨wants_none rfl, OpT.conv (OpT.evs (ev' := evL [(23, .agg #[.int .i64 p0a.1, va0, va1])]) (OpT.hdk (E := 4) (R := rBool) (xs := r2) (fun v => v) 0 (fun _ => rfl) (opT_call (args := #[.agg #[.int .i64 p0a.1, va0, va1]]) (first := #[]) (captured := #[]) en48 rfl rfl rfl (c_s_l11Live (p0a.1, p0a.2.1, p0a.2.2) _ e5 va0 va1 ra0 ra1))) rfl [.func 48, .tmp 23] rfl ⟨rfl, (hf 2 (mb rfl)), trivial⟩) rfl (fun _ h => h.2) (fun _ => rfl)⟩, Plan.goal_run fun vs hf => ⟨wants_none rfl, OpT.conv (OpT.evs (ev' := evL [(21, .agg #[.int .i64 p0a.1, va0, va1]), (22, v7), (24, (vs 3))]) (OpT.comm (OpT.hdk (E := 4) (R := rBool) (xs := r3.2.1) (fun v => vg v [1]) 0 (fun _ => rfl) (OpT.hdk (E := 34) (R := rSlice 3 rInt) (xs := r3.2.2) (fun v => vg v [2]) 1 (fun _ => rfl) (OpT.lend (ls := [Ch.own (rSlice 3 rInt) [v7] s4.1, Ch.own (rSlice 4 rBool) [(vs 3)] r2]) (gv := fun v => [Ch.own (rSlice 4 rBool) [vg v [1]] r3.2.1, Ch.own (rSlice 34 (rSlice 3 rInt)) [vg v [2]] r3.2.2]) (fun _ => ⟨dp_own (dp_slice dp_bool), dp_own (dp_slice (dp_slice dp_int)), trivial⟩) fun J hJ hl hb => opT_call (args := #[.agg #[.int .i64 p0a.1, va0, va1], v7, (vs 3)]) (first := #[]) (captured := #[]) en47 rfl rfl rfl (c_s_l11Number (p0a.1, p0a.2.1, p0a.2.2) s4.1 r2 _ e6 va0 va1 v7 (vs 3) (Rep.rd_mono _ ra0 hJ) (Rep.rd_mono _ ra1 hJ) (hl _ _ _ (List.Mem.head _)) (hl _ _ _ (List.Mem.tail _ (List.Mem.head _)))))))) rfl [.func 47, .tmp 21, .tmp 22, .tmp 24] rfl ⟨rfl, (hf 0 (mb rfl)), (hf 1 (mb rfl)), rfl, trivial⟩) rfl (fun _ h => by obtain ⟨⟨h, k1⟩, k0⟩ := h; obtain ⟨_, _, rfl⟩ := h; exact ⟨rfl, k0, k1⟩) (fun _ => rfl)⟩, Plan.goal_run fun vs hf => ⟨wants_none rfl, OpT.conv (OpT.evs (ev' := evL [(2, .pointer (some ⟨g2, 0, none⟩)), (25, .agg #[.int .i64 r3.1, (vg (vs 4) [1]), (vg (vs 4) [2])])]) (opT_store_blk (g := g2) (off := 0) (l := [.int .i64 0, .slice none 0 0, .slice none 0 0]) (d := [.int .i64 r3.1, (vg (vs 4) [1]), (vg (vs 4) [2])]) (E := 27) (u := .agg #[.int .i64 r3.1, (vg (vs 4) [1]), (vg (vs 4) [2])]) ti27 rfl rfl rfl rfl rfl (allC rfl (allC (Hd.one (show Hd (vg (vs 4) [1]) (r3.2.1).length from (hf 4 (mb rfl)).2.1)) (allC (Hd.one (show Hd (vg (vs 4) [2]) (r3.2.2).length from (hf 4 (mb rfl)).2.2)) allN))) (Nat.le_of_ble_eq_true rfl)) rfl [.tmp 2, .tmp 25] rfl ⟨rfl, (hf 4 (mb rfl)).1, trivial⟩) rfl (fun _ _ => trivial) (fun _ => rfl)⟩, trivial⟩
      intro vs aq52 wq52 hf haq52 hsq52
      clear haq51 hsq51
      replace haq52 := haq52.pick' (L' := [(2, .pointer (some ⟨g2, 0, none⟩))]) ⟨rfl, trivial⟩
      replace hsq52 : St I w0 wq52 [Ch.blk g1 [.int .i64 p0a.1, va0, va1] 27, Ch.own (rSlice 3 rInt) [v7] s4.1, Ch.own (rSlice 4 rBool) [(vs 3)] r2, Ch.own (rSlice 4 rBool) [(vg (vs 4) [1])] r3.2.1, Ch.own (rSlice 34 (rSlice 3 rInt)) [(vg (vs 4) [2])] r3.2.2, Ch.blk g2 [.int .i64 r3.1, (vg (vs 4) [1]), (vg (vs 4) [2])] 27, F] := hsq52
      obtain ⟨v11, ea1⟩ : ∃ x, x = (vs 3) := ⟨_, rfl⟩
      try rw [← ea1] at haq52
      try rw [← ea1] at hsq52
      clear ea1
      obtain ⟨v12, ea2⟩ : ∃ x, x = (vg (vs 4) [1]) := ⟨_, rfl⟩
      try rw [← ea2] at haq52
      try rw [← ea2] at hsq52
      clear ea2
      obtain ⟨v13, ea3⟩ : ∃ x, x = (vg (vs 4) [2]) := ⟨_, rfl⟩
      try rw [← ea3] at haq52
      try rw [← ea3] at hsq52
      clear ea3
      clear hf vs
      refine nrm ?_
      refine wp_ret ?_
      obtain rfl := Option.some.inj hm
      exact ret_1 haq52 rfl (res_cell (g := g2) haq52 rfl hsq52 5 rfl ti27 rfl) ⟨_, rfl, ⟨_, _, rfl⟩, _, Hp.le.rfl, St.sel (hsq52) 7 [3, 4, 6] rfl rfl⟩
end Go.Proofs.Ytcihbmdppgpmjaa.D
