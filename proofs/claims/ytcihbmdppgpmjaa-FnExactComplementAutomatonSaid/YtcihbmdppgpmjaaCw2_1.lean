/- Printed by dec.py: models of functions and the walks that show them. -/
import Derived.Test.YtcihbmdppgpmjaaCw0_2
import Derived.Test.YtcihbmdppgpmjaaCw1_0
import Derived.Test.YtcihbmdppgpmjaaCw1_2
import Derived.Test.YtcihbmdppgpmjaaCw1_3
set_option linter.unusedVariables false
set_option linter.unusedSimpArgs false
set_option linter.unnecessarySimpa false
set_option maxRecDepth 100000
set_option maxHeartbeats 8000000
namespace Go.Proofs.Ytcihbmdppgpmjaa.D
open Go.RowKit
theorem c_g_slices_Repeat_S_int_int (p0x : List Int) (p1count : Int) (r : List Int) (hm : m_g_slices_Repeat_S_int_int p0x p1count = some r) {I : Hp} {w0 : World} (va0 : Value) (ra0 : (rSlice 3 rInt).rd I [va0] p0x) : Con Try.prog 148 #[va0, .int .i64 p1count] I w0 [] (fun v => True) (fun v => [Ch.own (rSlice 3 rInt) [v] r]) := by
  refine con_of_wp (n := 48) [(0, va0), (1, .int .i64 p1count)] Try.func148 rfl rfl (Nat.le_of_ble_eq_true rfl) (args_all ⟨rfl, rfl, trivial⟩) (fun F w a ha hs => ?_) (fun v => ⟨dp_own (dp_slice dp_int), trivial⟩)
  unfold m_g_slices_Repeat_S_int_int at hm
  refine wp_seq (wp_region_lit (rn ha hs (sv (opT_assign (v := .slice none 0 0) rfl rfl) rfl rfl (enR (L' := [(0, va0), (1, .int .i64 p1count)]) rfl ?_))))
  clear ha hs a w;intro a1 w1 A1 S1
  refine nrm ?_
  obtain ⟨s1, hj1, hm⟩ := bind_some hm
  refine wp_seq_cut (fun a w => Agr 48 a [(0, va0), (1, .int .i64 p1count)] ∧ St I w0 w [F]) ?_ ?_
  · replace hm := hj1
    refine wp_seq (wp_region_lit (rn A1 S1 (sv (opT_move (v := .int .i64 p1count) rfl rfl) rfl rfl (sv (opT_cmp (k := .i64) (m := p1count) (n := 0) (c := decide (p1count < 0)) rfl rfl rfl rfl rfl) rfl rfl (enR (L' := [(0, va0), (1, .int .i64 p1count), (10, .bool (decide (p1count < 0)))]) rfl ?_)))))
    clear A1 S1 a1 w1;intro a3 w3 A3 S3
    refine nrm ?_
    rcases two (decide (p1count < 0)) with hb2 | hb2
    · replace hm := ifFe hb2 hm
      refine cnd_false (b := decide (p1count < 0)) A3 rfl rfl hb2 ?_
      refine wp_skip (nrm ?_)
      obtain rfl := Option.some.inj hm
      exact ⟨A3.pick' ⟨rfl, rfl, trivial⟩, St.sel S3 1 [0] rfl rfl⟩
    replace hm := ifTe hb2 hm
    refine cnd_true (b := decide (p1count < 0)) A3 rfl rfl hb2 ?_
    cases hm
  rintro a4 w4 ⟨A4, S4⟩
  refine wp_seq (wp_region_lit (rn A4 S4 (sv (opT_move (v := va0) rfl rfl) rfl rfl (sv (opT_len_hd (v := va0) (n := p0x.length) (Hd.of_rd ra0) Try.underlying34 rfl rfl) rfl rfl (sv (opT_conv_int (m := (p0x.length : Int)) Try.underlying3 Try.underlying199 rfl rfl) rfl rfl (sv (opT_move (v := .int .i64 p1count) rfl rfl) rfl rfl (sv (opT_conv_int (m := p1count) Try.underlying3 Try.underlying199 rfl rfl) rfl rfl ?_)))))))
  obtain ⟨r1, e1, hm⟩ := bind_some hm
  refine so0 (opT_call (args := #[.int .u64 (IntKind.u64.wrap (p0x.length : Int)), .int .u64 (IntKind.u64.wrap p1count)]) (first := #[]) (captured := #[]) en171 rfl rfl rfl (c_g_math_bits_Mul (IntKind.u64.wrap (p0x.length : Int)) (IntKind.u64.wrap p1count) _ e1  )) rfl rfl ?_
  rintro u a5 w5 hf A5 S5
  obtain rfl := Eq.symm hf
  clear A4 S4 a4 w4
  refine rn A5 S5 (sv (opT_move (v := .tuple #[.int .u64 r1.1, .int .u64 r1.2]) rfl rfl) rfl rfl (sv (opT_extract (vs := #[.int .u64 r1.1, .int .u64 r1.2]) (v := .int .u64 r1.1) rfl rfl rfl) rfl rfl (sv (opT_extract (vs := #[.int .u64 r1.1, .int .u64 r1.2]) (v := .int .u64 r1.2) rfl rfl rfl) rfl rfl (sv (opT_assign (v := .int .u64 r1.1) rfl rfl) rfl rfl (sv (opT_assign (v := .int .u64 r1.2) rfl rfl) rfl rfl (enR (L' := [(0, va0), (5, .int .u64 r1.1), (6, .int .u64 r1.2)]) rfl ?_))))))
  clear A5 S5 a5 w5;intro a6 w6 A6 S6
  refine nrm ?_
  obtain ⟨s2, hj2, hm⟩ := bind_some hm
  refine wp_seq_cut (fun a w => Agr 48 a [(0, va0), (6, .int .u64 r1.2)] ∧ St I w0 w [F]) ?_ ?_
  · replace hm := hj2
    refine wp_seq (wp_region_lit (rn A6 S6 (sv (opT_move (v := .int .u64 r1.1) rfl rfl) rfl rfl (sv (opT_cmp (k := .u64) (m := r1.1) (n := 0) (c := decide (r1.1 > 0)) rfl rfl rfl rfl rfl) rfl rfl (sv (opT_move (v := .bool (decide (r1.1 > 0))) rfl rfl) rfl rfl ?_)))))
    rcases two (decide (r1.1 > 0)) with hb5 | hb5
    · replace hm := ifFe hb5 hm
      refine svg (g := 2) (d := 23) (want := false) (b := decide (r1.1 > 0)) rfl rfl rfl hb5 (opT_move (v := .int .u64 r1.2) rfl rfl) rfl (svg (g := 2) (d := 23) (want := false) (b := decide (r1.1 > 0)) rfl rfl rfl hb5 (opT_cmp (k := .u64) (m := r1.2) (n := 9223372036854775807) (c := decide (r1.2 > 9223372036854775807)) rfl rfl rfl rfl rfl) rfl (sv (opT_pick (b := decide (r1.1 > 0)) (v := .bool (decide (r1.2 > 9223372036854775807))) rfl rfl (ifF hb5)) rfl rfl (enR (L' := [(0, va0), (6, .int .u64 r1.2), (26, .bool (decide (r1.2 > 9223372036854775807)))]) rfl ?_)))
      clear A6 S6 a6 w6;intro a9 w9 A9 S9
      refine nrm ?_
      rcases two (decide (r1.2 > 9223372036854775807)) with hb6 | hb6
      · replace hm := ifFe hb6 hm
        refine cnd_false (b := decide (r1.2 > 9223372036854775807)) A9 rfl rfl hb6 ?_
        refine wp_skip (nrm ?_)
        obtain rfl := Option.some.inj hm
        exact ⟨A9.pick' ⟨rfl, rfl, trivial⟩, St.sel S9 1 [0] rfl rfl⟩
      replace hm := ifTe hb6 hm
      refine cnd_true (b := decide (r1.2 > 9223372036854775807)) A9 rfl rfl hb6 ?_
      cases hm
    replace hm := ifTe hb5 hm
    refine ssk (g := 2) (d := 23) (want := false) (b := decide (r1.1 > 0)) rfl rfl rfl hb5 rfl (ssk (g := 2) (d := 23) (want := false) (b := decide (r1.1 > 0)) rfl rfl rfl hb5 rfl (sv (opT_pick (b := decide (r1.1 > 0)) (v := .bool true) rfl rfl (ifT hb5)) rfl rfl (enR (L' := [(0, va0), (6, .int .u64 r1.2), (26, .bool true)]) rfl ?_)))
    clear A6 S6 a6 w6;intro a10 w10 A10 S10
    refine nrm (cnd_true (b := true) A10 rfl rfl rfl ?_)
    cases hm
  rintro a11 w11 ⟨A11, S11⟩
  refine wp_seq (wp_region_lit (rn A11 S11 (sv (opT_move (v := .int .u64 r1.2) rfl rfl) rfl rfl (sv (opT_conv_int (m := r1.2) Try.underlying199 Try.underlying3 rfl rfl) rfl rfl ?_))))
  obtain ⟨x1, hk1, hm⟩ := bind_some hm
  refine sop (opT_mk (E := 3) (R := rInt) (zv := .int .i64 0) (z := (0 : Int)) zro_flat Try.underlying34 tz3 rfl rfl (by decide) (by decide) rfl rfl hk1) (List.Perm.refl _) rfl rfl ?_
  rintro v1 a12 w12 - A12 (S12 : St I w0 w12 [Ch.own (rSlice 3 rInt) [v1] x1, F])
  clear A11 S11 a11 w11
  refine rn A12 S12 (sv (opT_assign (v := v1) rfl rfl) rfl rfl (enR (L' := [(0, va0), (7, v1)]) rfl ?_))
  clear A12 S12 a12 w12;intro a13 w13 A13 S13
  refine nrm (wp_seq (wp_region_lit (rn A13 S13 (sv (opT_move (v := v1) rfl rfl) rfl rfl (sv (opT_move (v := va0) rfl rfl) rfl rfl (sop (opT_copy_rd (E := 3) (v := v1) (u := va0) (xs := x1) (ys := p0x) (lo := 0) ra0 Try.underlying34 (ti_one ti3) rfl rfl rfl (Nat.zero_le _) (.inl ⟨rfl, rfl⟩)) (perm_front (i := 0) rfl) rfl rfl ?_))))))
  rintro u a14 w14 hf A14 (S14 : St I w0 w14 [Ch.own (rSlice 3 rInt) [v1] (cpyI x1 0 p0x), F])
  obtain rfl := Eq.symm hf
  clear A13 S13 a13 w13
  refine rn A14 S14 (sv (opT_assign (v := .int .i64 ((min p0x.length (x1.length - 0) : Nat) : Int)) rfl rfl) rfl rfl (enR (L' := [(7, v1), (8, .int .i64 ((min p0x.length (x1.length - 0) : Nat) : Int))]) rfl ?_))
  clear A14 S14 a14 w14;intro a15 w15 A15 S15
  refine nrm ?_
  obtain ⟨o3, hl1, hc3⟩ := bindL_some hm
  refine wp_seq_cut (fun a w => ∃ s6 : (List Int) × Int, o3 = .brk s6 ∧ Agr 48 a [(7, v1)] ∧ St I w0 w [Ch.own (rSlice 3 rInt) [v1] s6.1, F]) ?_ ?_
  · refine wp_block (wp_loopM (R := List Int) (S := (List Int) × Int) (fun s5 a w => Agr 48 a [(7, v1), (8, .int .i64 s5.2)] ∧ St I w0 w [Ch.own (rSlice 3 rInt) [v1] s5.1, F]) hl1 ?_ ?_)
    · exact ⟨A15.pick' ⟨rfl, rfl, trivial⟩, St.sel S15 2 [0, 1] rfl rfl⟩
    rintro s5 o4 hm hf1 a18 w18 ⟨A18, S18⟩
    unfold m_g_slices_Repeat_S_int_int_l0 at hm
    refine wp_seq (wp_seq (wp_region_lit (rn A18 S18 (sv (opT_move (v := .int .i64 s5.2) rfl rfl) rfl rfl (sv (opT_move (v := v1) rfl rfl) rfl rfl (sv (opT_len_hd (v := v1) (n := s5.1.length) (St.hd S18 0 rfl).1 Try.underlying34 rfl rfl) rfl rfl (sv (opT_cmp (k := .i64) (m := s5.2) (n := (s5.1.length : Int)) (c := decide (s5.2 < (s5.1.length : Int))) rfl rfl rfl rfl rfl) rfl rfl (enR (L' := [(7, v1), (8, .int .i64 s5.2), (37, .bool (decide (s5.2 < (s5.1.length : Int))))]) rfl ?_))))))))
    clear A18 S18 a18 w18;intro a19 w19 A19 S19
    refine nrm ?_
    rcases two (decide (s5.2 < (s5.1.length : Int))) with hb9 | hb9
    · replace hm := ifFe hb9 hm
      refine cnd_false (b := decide (s5.2 < (s5.1.length : Int))) A19 rfl rfl hb9 ?_
      exact wp_exit (thenX (thenX (ex_in (nrm (⟨_, loopBrk hm hf1, ⟨A19.pick' ⟨rfl, trivial⟩, St.sel S19 2 [0, 1] rfl rfl⟩⟩)))))
    replace hm := ifTe hb9 hm
    refine cnd_true (b := decide (s5.2 < (s5.1.length : Int))) A19 rfl rfl hb9 ?_
    refine wp_skip (nrm (wp_block ?_))
    obtain ⟨_, hk10, hm⟩ := bind_some hm
    have hd1 := (St.hd S19 0 rfl).1
    obtain ⟨_, hk11, hm⟩ := bind_some hm
    obtain ⟨_, hk12, hm⟩ := bind_some hm
    obtain ⟨_, hk13, hm⟩ := bind_some hm
    refine wp_draw (L := [(7, v1), (8, .int .i64 s5.2), (37, .bool (decide (s5.2 < (s5.1.length : Int))))]) (C := [F]) { ops := [⟨[], [], [], [0], fun | [xo0] => xo0 = .int .i64 s5.2 | _ => True, [(8, none)]⟩, ⟨[], [], [], [1], fun | [xo1] => xo1 = v1 | _ => True, [(7, none)]⟩, ⟨[], [], [], [2], fun | [xo2] => xo2 = .int .i64 s5.2 | _ => True, [(8, none)]⟩, ⟨[], [], [], [3], fun | [xo3] => xo3 = subV v1 s5.2.toNat s5.1.length 1 | _ => True, [(39, some 1), (40, some 2)]⟩, ⟨[], [], [], [4], fun | [xo4] => xo4 = v1 | _ => True, [(7, none)]⟩, ⟨[], [], [], [5], fun | [xo5] => xo5 = .int .i64 s5.2 | _ => True, [(8, none)]⟩, ⟨[], [], [], [6], fun | [xo6] => xo6 = subV v1 0 s5.2.toNat 1 | _ => True, [(42, some 4), (43, some 5)]⟩, ⟨[], [0], [1], [7], fun | [xo7] => xo7 = .int .i64 ((min (s5.1.take s5.2.toNat).length (s5.1.length - s5.2.toNat) : Nat) : Int) | _ => True, [(41, some 3), (44, some 6)]⟩, ⟨[], [], [], [8], fun | [xo8] => xo8 = .int .i64 (IntKind.i64.wrap (s5.2 + ((min (s5.1.take s5.2.toNat).length (s5.1.length - s5.2.toNat) : Nat) : Int))) | _ => True, [(38, some 0), (45, some 7)]⟩, ⟨[], [], [], [9], fun | [xo9] => xo9 = .int .i64 (IntKind.i64.wrap (s5.2 + ((min (s5.1.take s5.2.toNat).length (s5.1.length - s5.2.toNat) : Nat) : Int))) | _ => True, [(46, some 8)]⟩], res := [⟨[], fun _ => Ch.own (rSlice 3 rInt) [v1] s5.1⟩, ⟨[], fun _ => Ch.own (rSlice 3 rInt) [v1] (cpyI s5.1 s5.2.toNat (s5.1.take s5.2.toNat))⟩], base := [0], pre := [[], [], [], [1, 2], [], [], [4, 5], [1, 2, 3, 4, 5, 6], [0, 1, 2, 3, 4, 5, 6, 7], [0, 1, 2, 3, 4, 5, 6, 7, 8]], fin := [(7, none), (8, some 9)], left := [1] } (by kernel_rfl) A19 S19 (perm_sel [0, 1] (m := 2) rfl rfl) (by kernel_rfl) (by kernel_rfl) ?_ ?_
    · exact ⟨Plan.goal_run fun vs hf => ⟨wants_none rfl, OpT.conv (OpT.evs (ev' := evL [(8, .int .i64 s5.2)]) (opT_move (v := .int .i64 s5.2) rfl rfl) rfl [.tmp 8] rfl ⟨rfl, trivial⟩) rfl (fun _ h => Eq.trans h rfl) (fun _ => rfl)⟩, Plan.goal_run fun vs hf => ⟨wants_none rfl, OpT.conv (OpT.evs (ev' := evL [(7, v1)]) (opT_move (v := v1) rfl rfl) rfl [.tmp 7] rfl ⟨rfl, trivial⟩) rfl (fun _ h => Eq.trans h rfl) (fun _ => rfl)⟩, Plan.goal_run fun vs hf => ⟨wants_none rfl, OpT.conv (OpT.evs (ev' := evL [(8, .int .i64 s5.2)]) (opT_move (v := .int .i64 s5.2) rfl rfl) rfl [.tmp 8] rfl ⟨rfl, trivial⟩) rfl (fun _ h => Eq.trans h rfl) (fun _ => rfl)⟩, Plan.goal_run fun vs hf => ⟨wants_none rfl, OpT.conv (OpT.evs (ev' := evL [(39, v1), (40, .int .i64 s5.2)]) (opT_slice_l (v := v1) (len := s5.1.length) (n := 1) (l := s5.2) Try.underlying34 ti3 hd1 rfl rfl rfl (chk_some hk10)) rfl [.tmp 39, .tmp 40] rfl ⟨(hf 1 (mb rfl)), (hf 2 (mb rfl)), trivial⟩) rfl (fun _ h => Eq.trans h rfl) (fun _ => rfl)⟩, Plan.goal_run fun vs hf => ⟨wants_none rfl, OpT.conv (OpT.evs (ev' := evL [(7, v1)]) (opT_move (v := v1) rfl rfl) rfl [.tmp 7] rfl ⟨rfl, trivial⟩) rfl (fun _ h => Eq.trans h rfl) (fun _ => rfl)⟩, Plan.goal_run fun vs hf => ⟨wants_none rfl, OpT.conv (OpT.evs (ev' := evL [(8, .int .i64 s5.2)]) (opT_move (v := .int .i64 s5.2) rfl rfl) rfl [.tmp 8] rfl ⟨rfl, trivial⟩) rfl (fun _ h => Eq.trans h rfl) (fun _ => rfl)⟩, Plan.goal_run fun vs hf => ⟨wants_none rfl, OpT.conv (OpT.evs (ev' := evL [(42, v1), (43, .int .i64 s5.2)]) (opT_slice_h (v := v1) (len := s5.1.length) (n := 1) (l := s5.2) Try.underlying34 ti3 hd1 rfl rfl rfl (chk_some hk11)) rfl [.tmp 42, .tmp 43] rfl ⟨(hf 4 (mb rfl)), (hf 5 (mb rfl)), trivial⟩) rfl (fun _ h => Eq.trans h rfl) (fun _ => rfl)⟩, Plan.goal_run fun vs hf => ⟨wants_none rfl, OpT.conv (OpT.evs (ev' := evL [(41, subV v1 s5.2.toNat s5.1.length 1), (44, subV v1 0 s5.2.toNat 1)]) (opT_copy_self (E := 3) (v := v1) (xs := s5.1) (lo := s5.2.toNat) (hi := s5.2.toNat) Try.underlying34 (ti_one ti3) rfl rfl rfl (chk_some hk12) (chk_some hk13) (.inr rfl)) rfl [.tmp 41, .tmp 44] rfl ⟨(hf 3 (mb rfl)), (hf 6 (mb rfl)), trivial⟩) rfl (fun _ h => Eq.trans h rfl) (fun _ => rfl)⟩, Plan.goal_run fun vs hf => ⟨wants_none rfl, OpT.conv (OpT.evs (ev' := evL [(38, .int .i64 s5.2), (45, .int .i64 ((min (s5.1.take s5.2.toNat).length (s5.1.length - s5.2.toNat) : Nat) : Int))]) (opT_add (m := s5.2) (n := ((min (s5.1.take s5.2.toNat).length (s5.1.length - s5.2.toNat) : Nat) : Int)) rfl rfl rfl) rfl [.tmp 38, .tmp 45] rfl ⟨(hf 0 (mb rfl)), (hf 7 (mb rfl)), trivial⟩) rfl (fun _ h => Eq.trans h rfl) (fun _ => rfl)⟩, Plan.goal_run fun vs hf => ⟨wants_none rfl, OpT.conv (OpT.evs (ev' := evL [(46, .int .i64 (IntKind.i64.wrap (s5.2 + ((min (s5.1.take s5.2.toNat).length (s5.1.length - s5.2.toNat) : Nat) : Int))))]) (opT_assign (v := .int .i64 (IntKind.i64.wrap (s5.2 + ((min (s5.1.take s5.2.toNat).length (s5.1.length - s5.2.toNat) : Nat) : Int)))) rfl rfl) rfl [.tmp 46] rfl ⟨(hf 8 (mb rfl)), trivial⟩) rfl (fun _ h => Eq.trans h rfl) (fun _ => rfl)⟩, trivial⟩
    intro vs a20 w20 hf A20 S20
    clear A19 S19
    replace A20 := A20.pick' (L' := [(7, v1), (8, .int .i64 (IntKind.i64.wrap (s5.2 + ((min (s5.1.take s5.2.toNat).length (s5.1.length - s5.2.toNat) : Nat) : Int))))]) ⟨rfl, (congrArg some (show _ = _ from (hf 9 (Nat.le_of_ble_eq_true rfl)))), trivial⟩
    replace S20 : St I w0 w20 [Ch.own (rSlice 3 rInt) [v1] (cpyI s5.1 s5.2.toNat (s5.1.take s5.2.toNat)), F] := S20
    clear hf vs
    exact nrmB (nrm (⟨_, (Option.some.inj hm).symm, ⟨A20.pick' ⟨rfl, rfl, trivial⟩, St.sel S20 2 [0, 1] rfl rfl⟩⟩))
  rintro a21 w21 ⟨s6, ho3, A21, S21⟩
  replace hm := loopOut ho3 hc3
  clear ho3 hc3 hl1
  refine wp_seq (wp_region_lit (rn A21 S21 (sv (opT_move (v := v1) rfl rfl) rfl rfl (sv (opT_assign (v := v1) rfl rfl) rfl rfl (enR (L' := [(4, v1)]) rfl ?_)))))
  clear A21 S21 a21 w21;intro a22 w22 A22 S22
  refine nrm (wp_ret ?_)
  obtain rfl := Option.some.inj hm
  exact ret_1 A22 rfl (res_tmp A22 rfl) ⟨_, rfl, trivial, _, Hp.le.rfl, St.sel (S22) 2 [0, 1] rfl rfl⟩
theorem c_w_szAutomaton (p0a : Int × (List Bool) × (List (List Int))) (p1left : Int) (r : Int) (hm : m_w_szAutomaton p0a p1left = some r) {I : Hp} {w0 : World} (va0 : Value) (va1 : Value) (ra0 : (rSlice 4 rBool).rd I [va0] p0a.2.1) (ra1 : (rSlice 34 (rSlice 3 rInt)).rd I [va1] p0a.2.2) : Con Try.prog 12 #[.agg #[.int .i64 p0a.1, va0, va1], .int .i64 p1left] I w0 [] (fun v => v = .int .i64 r) (fun v => []) := by
  refine con_of_wp (n := 18) [(0, .agg #[.int .i64 p0a.1, va0, va1]), (1, .int .i64 p1left)] Try.func12 rfl rfl (Nat.le_of_ble_eq_true rfl) (args_all ⟨rfl, rfl, trivial⟩) (fun F w a ha hs => ?_) (fun v => trivial)
  unfold m_w_szAutomaton at hm
  refine wp_seq (wp_region_lit (rn ha hs (sop (opT_box (u := .agg #[.int .i64 p0a.1, va0, va1]) (l := [.int .i64 p0a.1, va0, va1]) rfl rfl rfl) (List.Perm.refl _) rfl rfl ?_)))
  rintro _ a1 w1 ⟨g1, rfl⟩ A1 (S1 : St I w0 w1 [Ch.blk g1 [.int .i64 p0a.1, va0, va1] 25, F])
  clear ha hs a w
  refine rn A1 S1 (sv (opT_assign (v := .int .i64 0) rfl rfl) rfl rfl (enR (L' := [(1, .int .i64 p1left), (2, .pointer (some ⟨g1, 0, none⟩))]) rfl ?_))
  clear A1 S1 a1 w1;intro a2 w2 A2 S2
  refine nrm (wp_seq (wp_region_lit (rn A2 S2 (sv (opT_field_addr (g := g1) (b := 0) tf25_1 rfl rfl) rfl rfl (sop (opT_load_blk (g := g1) (off := 1) (E := 25) (l := [.int .i64 p0a.1, va0, va1]) (d := [va0]) (u := va0) ti22 rfl rfl rfl rfl rfl rfl) (perm_front (i := 0) rfl) rfl rfl ?_)))))
  rintro u a3 w3 hf A3 (S3 : St I w0 w3 [Ch.blk g1 [.int .i64 p0a.1, va0, va1] 25, F])
  obtain rfl := Eq.symm hf
  clear A2 S2 a2 w2
  refine rn A3 S3 (sv (opT_move (v := .int .i64 p1left) rfl rfl) rfl rfl ?_)
  obtain ⟨r1, e1, hm⟩ := bind_some hm
  refine so0 (opT_call (args := #[va0, .int .i64 p1left]) (first := #[]) (captured := #[]) en44 rfl rfl rfl (c_w_szBoolS p0a.2.1 p1left _ e1 va0 ra0)) rfl rfl ?_
  rintro u a4 w4 hf A4 S4
  obtain rfl := Eq.symm hf
  clear A3 S3 a3 w3
  refine rn A4 S4 (sv (opT_assign (v := .int .i64 r1) rfl rfl) rfl rfl (enR (L' := [(1, .int .i64 r1), (2, .pointer (some ⟨g1, 0, none⟩))]) rfl ?_))
  clear A4 S4 a4 w4;intro a5 w5 A5 S5
  refine nrm (wp_seq (wp_seq (wp_region_lit (rn A5 S5 (sv (opT_move (v := .int .i64 r1) rfl rfl) rfl rfl (sv (opT_cmp (k := .i64) (m := r1) (n := 0) (c := decide (r1 < 0)) rfl rfl rfl rfl rfl) rfl rfl (enR (L' := [(1, .int .i64 r1), (2, .pointer (some ⟨g1, 0, none⟩)), (10, .bool (decide (r1 < 0)))]) rfl ?_)))))))
  clear A5 S5 a5 w5;intro a6 w6 A6 S6
  refine nrm ?_
  rcases two (decide (r1 < 0)) with hb1 | hb1
  · replace hm := ifFe hb1 hm
    refine cnd_false (b := decide (r1 < 0)) A6 rfl rfl hb1 ?_
    refine wp_skip (nrm (wp_seq (wp_region_lit (rn A6 S6 (sv (opT_field_addr (g := g1) (b := 0) tf25_2 rfl rfl) rfl rfl (sop (opT_load_blk (g := g1) (off := 2) (E := 25) (l := [.int .i64 p0a.1, va0, va1]) (d := [va1]) (u := va1) ti23 rfl rfl rfl rfl rfl rfl) (perm_front (i := 0) rfl) rfl rfl ?_))))))
    rintro u a7 w7 hf A7 (S7 : St I w0 w7 [Ch.blk g1 [.int .i64 p0a.1, va0, va1] 25, F])
    obtain rfl := Eq.symm hf
    clear A6 S6 a6 w6
    refine rn A7 S7 (sv (opT_move (v := .int .i64 r1) rfl rfl) rfl rfl ?_)
    obtain ⟨r2, e2, hm⟩ := bind_some hm
    refine so0 (opT_call (args := #[va1, .int .i64 r1]) (first := #[]) (captured := #[]) en45 rfl rfl rfl (c_w_szIntSS p0a.2.2 r1 _ e2 va1 ra1)) rfl rfl ?_
    rintro u a8 w8 hf A8 S8
    obtain rfl := Eq.symm hf
    clear A7 S7 a7 w7
    refine rn A8 S8 (sv (opT_assign (v := .int .i64 r2) rfl rfl) rfl rfl (enR (L' := [(1, .int .i64 r2)]) rfl ?_))
    clear A8 S8 a8 w8;intro a9 w9 A9 S9
    refine nrm (wp_seq (wp_seq (wp_region_lit (rn A9 S9 (sv (opT_move (v := .int .i64 r2) rfl rfl) rfl rfl (sv (opT_cmp (k := .i64) (m := r2) (n := 0) (c := decide (r2 < 0)) rfl rfl rfl rfl rfl) rfl rfl (enR (L' := [(1, .int .i64 r2), (16, .bool (decide (r2 < 0)))]) rfl ?_)))))))
    clear A9 S9 a9 w9;intro a10 w10 A10 S10
    refine nrm ?_
    rcases two (decide (r2 < 0)) with hb2 | hb2
    · replace hm := ifFe hb2 hm
      refine cnd_false (b := decide (r2 < 0)) A10 rfl rfl hb2 ?_
      refine wp_skip (nrm (wp_seq (wp_region_lit (rn A10 S10 (sv (opT_move (v := .int .i64 r2) rfl rfl) rfl rfl (sv (opT_assign (v := .int .i64 r2) rfl rfl) rfl rfl (enR (L' := [(4, .int .i64 r2)]) rfl ?_)))))))
      clear A10 S10 a10 w10;intro a11 w11 A11 S11
      refine nrm (wp_ret ?_)
      obtain rfl := Option.some.inj hm
      exact ret_1 A11 rfl (res_tmp A11 rfl) ⟨_, rfl, rfl, _, Hp.le.rfl, St.sel (S11) 2 [1] rfl rfl⟩
    replace hm := ifTe hb2 hm
    refine cnd_true (b := decide (r2 < 0)) A10 rfl rfl hb2 ?_
    refine wp_seq (wp_region_lit (rn A10 S10 (sv (opT_assign (v := .int .i64 (-1)) rfl rfl) rfl rfl (enR (L' := [(4, .int .i64 (-1))]) rfl ?_))))
    clear A10 S10 a10 w10;intro a12 w12 A12 S12
    refine nrm (wp_ret (thenR ?_))
    obtain rfl := Option.some.inj hm
    exact ret_1 A12 rfl (res_tmp A12 rfl) ⟨_, rfl, rfl, _, Hp.le.rfl, St.sel (S12) 2 [1] rfl rfl⟩
  replace hm := ifTe hb1 hm
  refine cnd_true (b := decide (r1 < 0)) A6 rfl rfl hb1 ?_
  refine wp_seq (wp_region_lit (rn A6 S6 (sv (opT_assign (v := .int .i64 (-1)) rfl rfl) rfl rfl (enR (L' := [(4, .int .i64 (-1))]) rfl ?_))))
  clear A6 S6 a6 w6;intro a13 w13 A13 S13
  refine nrm (wp_ret (thenR ?_))
  obtain rfl := Option.some.inj hm
  exact ret_1 A13 rfl (res_tmp A13 rfl) ⟨_, rfl, rfl, _, Hp.le.rfl, St.sel (S13) 2 [1] rfl rfl⟩
theorem c_s_IsValidAutomaton (p0a : Int × (List Bool) × (List (List Int))) (r : Bool) (hm : m_s_IsValidAutomaton p0a = some r) {I : Hp} {w0 : World} (va0 : Value) (va1 : Value) (ra0 : (rSlice 4 rBool).rd I [va0] p0a.2.1) (ra1 : (rSlice 34 (rSlice 3 rInt)).rd I [va1] p0a.2.2) : Con Try.prog 46 #[.agg #[.int .i64 p0a.1, va0, va1]] I w0 [] (fun v => v = .bool r) (fun v => []) := by
  refine con_of_wp (n := 11) [(0, .agg #[.int .i64 p0a.1, va0, va1])] Try.func46 rfl rfl (Nat.le_of_ble_eq_true rfl) (args_all ⟨rfl, trivial⟩) (fun F w a ha hs => ?_) (fun v => trivial)
  unfold m_s_IsValidAutomaton at hm
  refine wp_seq (wp_region_lit (rn ha hs (sop (opT_box (u := .agg #[.int .i64 p0a.1, va0, va1]) (l := [.int .i64 p0a.1, va0, va1]) rfl rfl rfl) (List.Perm.refl _) rfl rfl ?_)))
  rintro _ a1 w1 ⟨g1, rfl⟩ A1 (S1 : St I w0 w1 [Ch.blk g1 [.int .i64 p0a.1, va0, va1] 27, F])
  clear ha hs a w
  refine rn A1 S1 (sv (opT_assign (v := .bool false) rfl rfl) rfl rfl (enR (L' := [(1, .pointer (some ⟨g1, 0, none⟩))]) rfl ?_))
  clear A1 S1 a1 w1;intro a2 w2 A2 S2
  refine nrm (wp_seq (wp_region_lit (rn A2 S2 (sv (opT_field_addr (g := g1) (b := 0) tf27_1 rfl rfl) rfl rfl (sop (opT_load_blk (g := g1) (off := 1) (E := 27) (l := [.int .i64 p0a.1, va0, va1]) (d := [va0]) (u := va0) ti22 rfl rfl rfl rfl rfl rfl) (perm_front (i := 0) rfl) rfl rfl ?_)))))
  rintro u a3 w3 hf A3 (S3 : St I w0 w3 [Ch.blk g1 [.int .i64 p0a.1, va0, va1] 27, F])
  obtain rfl := Eq.symm hf
  clear A2 S2 a2 w2
  refine rn A3 S3 (sv (opT_len_hd (v := va0) (n := p0a.2.1.length) (Hd.of_rd ra0) Try.underlying22 rfl rfl) rfl rfl (sv (opT_cmp (k := .i64) (m := (p0a.2.1.length : Int)) (n := 12) (c := decide ((p0a.2.1.length : Int) ≤ 12)) rfl rfl rfl rfl rfl) rfl rfl (sv (opT_move (v := .bool (decide ((p0a.2.1.length : Int) ≤ 12))) rfl rfl) rfl rfl ?_)))
  rcases two (decide ((p0a.2.1.length : Int) ≤ 12)) with hb1 | hb1
  · replace hm := ifFe hb1 hm
    refine ssk (g := 4) (d := 7) (want := true) (b := decide ((p0a.2.1.length : Int) ≤ 12)) rfl rfl rfl hb1 rfl (ssk (g := 4) (d := 7) (want := true) (b := decide ((p0a.2.1.length : Int) ≤ 12)) rfl rfl rfl hb1 rfl (sv (opT_pick (b := decide ((p0a.2.1.length : Int) ≤ 12)) (v := .bool false) rfl rfl (ifF hb1)) rfl rfl (sv (opT_assign (v := .bool false) rfl rfl) rfl rfl (enR (L' := [(2, .bool false)]) rfl ?_))))
    clear A3 S3 a3 w3;intro a4 w4 A4 S4
    refine nrm (wp_ret ?_)
    obtain rfl := Option.some.inj hm
    exact ret_1 A4 rfl (res_tmp A4 rfl) ⟨_, rfl, rfl, _, Hp.le.rfl, St.sel (S4) 2 [1] rfl rfl⟩
  replace hm := ifTe hb1 hm
  refine sopg (g := 4) (d := 7) (want := true) (b := decide ((p0a.2.1.length : Int) ≤ 12)) rfl rfl rfl hb1 (opT_load_blk (g := g1) (off := 0) (E := 27) (l := [.int .i64 p0a.1, va0, va1]) (d := [.int .i64 p0a.1, va0, va1]) (u := .agg #[.int .i64 p0a.1, va0, va1]) ti27 rfl rfl rfl rfl rfl rfl) (perm_front (i := 0) rfl) rfl ?_
  rintro u a5 w5 hf A5 (S5 : St I w0 w5 [Ch.blk g1 [.int .i64 p0a.1, va0, va1] 27, F])
  obtain rfl := Eq.symm hf
  clear A3 S3 a3 w3
  obtain ⟨r1, e1, hm⟩ := bind_some hm
  refine rn A5 S5 (so0g (g := 4) (d := 7) (want := true) (b := decide ((p0a.2.1.length : Int) ≤ 12)) rfl rfl rfl hb1 (opT_call (args := #[.agg #[.int .i64 p0a.1, va0, va1]]) (first := #[]) (captured := #[]) en92 rfl rfl rfl (c_s_l11Fits (p0a.1, p0a.2.1, p0a.2.2) _ e1 va0 va1 ra0 ra1)) rfl ?_)
  rintro u a6 w6 hf A6 S6
  obtain rfl := Eq.symm hf
  clear A5 S5 a5 w5
  refine rn A6 S6 (sv (opT_pick (b := decide ((p0a.2.1.length : Int) ≤ 12)) (v := .bool r1) rfl rfl (ifT hb1)) rfl rfl (sv (opT_assign (v := .bool r1) rfl rfl) rfl rfl (enR (L' := [(2, .bool r1)]) rfl ?_)))
  clear A6 S6 a6 w6;intro a7 w7 A7 S7
  refine nrm (wp_ret ?_)
  obtain rfl := Option.some.inj hm
  exact ret_1 A7 rfl (res_tmp A7 rfl) ⟨_, rfl, rfl, _, Hp.le.rfl, St.sel (S7) 2 [1] rfl rfl⟩
end Go.Proofs.Ytcihbmdppgpmjaa.D
