/- Printed by dec.py: models of functions and the walks that show them. -/
import Derived.Test.YtcihbmdppgpmjaaIw1_2
import Derived.Test.YtcihbmdppgpmjaaIw1_3
set_option linter.unusedVariables false
set_option linter.unusedSimpArgs false
set_option linter.unnecessarySimpa false
set_option maxRecDepth 100000
namespace Go.Proofs.Ytcihbmdppgpmjaa.D
open Go.RowKit
set_option maxHeartbeats 8000000 in
theorem c_g_slices_Repeat_S_int_int (p0x : List Int) (p1count : Int) (r : List Int) (hm : m_g_slices_Repeat_S_int_int p0x p1count = some r) {I : Hp} {w0 : World} (va0 : Value) (ra0 : (rSlice 3 rInt).rd I [va0] p0x) : Con Try.prog 148 #[va0, .int .i64 p1count] I w0 [] (fun v => True) (fun v => [Ch.own (rSlice 3 rInt) [v] r]) := by
  refine con_of_wp (n := 48) [(0, va0), (1, .int .i64 p1count)] Try.func148 rfl rfl (Nat.le_of_ble_eq_true rfl) (args_all ⟨rfl, rfl, trivial⟩) (fun F w a ha hs => ?_) (fun v => ⟨dp_own (dp_slice dp_int), trivial⟩)
  unfold m_g_slices_Repeat_S_int_int at hm
  refine wp_seq ?_
  refine wp_region_lit ?_
  refine seq_op0 ha hs (opT_assign (v := .slice none 0 0) rfl rfl) rfl rfl ?_
  rintro u aq1 wq1 hf haq1 hsq1
  obtain rfl := Eq.symm hf
  clear ha hs a w
  refine wpList_nil ?_
  replace haq1 := haq1.pick' (L' := [(0, va0), (1, .int .i64 p1count)]) ⟨rfl, rfl, trivial⟩
  refine nrm ?_
  obtain ⟨s1, hj1, hm⟩ := bind_some hm
  refine wp_seq_cut (fun a w => Agr 48 a [(0, va0), (1, .int .i64 p1count)] ∧ St I w0 w [F]) ?_ ?_
  · replace hm := hj1
    refine wp_seq ?_
    refine wp_region_lit ?_
    refine seq_op0 haq1 hsq1 (opT_move (v := .int .i64 p1count) rfl rfl) rfl rfl ?_
    rintro u aq4 wq4 hf haq4 hsq4
    obtain rfl := Eq.symm hf
    clear haq1 hsq1 aq1 wq1
    refine seq_op0 haq4 hsq4 (opT_cmp (k := .i64) (m := p1count) (n := 0) (c := decide (p1count < 0)) rfl rfl rfl rfl rfl) rfl rfl ?_
    rintro u aq5 wq5 hf haq5 hsq5
    obtain rfl := Eq.symm hf
    clear haq4 hsq4 aq4 wq4
    refine wpList_nil ?_
    replace haq5 := haq5.pick' (L' := [(0, va0), (1, .int .i64 p1count), (10, .bool (decide (p1count < 0)))]) ⟨rfl, rfl, rfl, trivial⟩
    refine nrm ?_
    rcases two (decide (p1count < 0)) with hb2 | hb2
    · replace hm := ifFe hb2 hm
      refine cnd_false (b := decide (p1count < 0)) haq5 rfl rfl hb2 ?_
      refine wp_skip ?_
      refine nrm ?_
      obtain rfl := Option.some.inj hm
      exact ⟨haq5.pick' ⟨rfl, rfl, trivial⟩, St.sel hsq5 1 [0] rfl rfl⟩
    · replace hm := ifTe hb2 hm
      refine cnd_true (b := decide (p1count < 0)) haq5 rfl rfl hb2 ?_
      cases hm
  · rintro aq6 wq6 ⟨haq6, hsq6⟩
    refine wp_seq ?_
    refine wp_region_lit ?_
    refine seq_op0 haq6 hsq6 (opT_move (v := va0) rfl rfl) rfl rfl ?_
    rintro u aq7 wq7 hf haq7 hsq7
    obtain rfl := Eq.symm hf
    clear haq6 hsq6 aq6 wq6
    refine seq_op0 haq7 hsq7 (opT_len_hd (v := va0) (n := p0x.length) (Hd.of_rd ra0) Try.underlying34 rfl rfl) rfl rfl ?_
    rintro u aq8 wq8 hf haq8 hsq8
    obtain rfl := Eq.symm hf
    clear haq7 hsq7 aq7 wq7
    refine seq_op0 haq8 hsq8 (opT_conv_int (m := (p0x.length : Int)) Try.underlying3 Try.underlying199 rfl rfl) rfl rfl ?_
    rintro u aq9 wq9 hf haq9 hsq9
    obtain rfl := Eq.symm hf
    clear haq8 hsq8 aq8 wq8
    refine seq_op0 haq9 hsq9 (opT_move (v := .int .i64 p1count) rfl rfl) rfl rfl ?_
    rintro u aq10 wq10 hf haq10 hsq10
    obtain rfl := Eq.symm hf
    clear haq9 hsq9 aq9 wq9
    refine seq_op0 haq10 hsq10 (opT_conv_int (m := p1count) Try.underlying3 Try.underlying199 rfl rfl) rfl rfl ?_
    rintro u aq11 wq11 hf haq11 hsq11
    obtain rfl := Eq.symm hf
    clear haq10 hsq10 aq10 wq10
    obtain ⟨r1, e1, hm⟩ := bind_some hm
    refine seq_op0 haq11 hsq11 (opT_call (args := #[.int .u64 (IntKind.u64.wrap (p0x.length : Int)), .int .u64 (IntKind.u64.wrap p1count)]) (first := #[]) (captured := #[]) en171 rfl rfl rfl (c_g_math_bits_Mul (IntKind.u64.wrap (p0x.length : Int)) (IntKind.u64.wrap p1count) _ e1  )) rfl rfl ?_
    rintro u aq12 wq12 hf haq12 hsq12
    obtain rfl := Eq.symm hf
    clear haq11 hsq11 aq11 wq11
    refine seq_op0 haq12 hsq12 (opT_move (v := .tuple #[.int .u64 r1.1, .int .u64 r1.2]) rfl rfl) rfl rfl ?_
    rintro u aq13 wq13 hf haq13 hsq13
    obtain rfl := Eq.symm hf
    clear haq12 hsq12 aq12 wq12
    refine seq_op0 haq13 hsq13 (opT_extract (vs := #[.int .u64 r1.1, .int .u64 r1.2]) (v := .int .u64 r1.1) rfl rfl rfl) rfl rfl ?_
    rintro u aq14 wq14 hf haq14 hsq14
    obtain rfl := Eq.symm hf
    clear haq13 hsq13 aq13 wq13
    refine seq_op0 haq14 hsq14 (opT_extract (vs := #[.int .u64 r1.1, .int .u64 r1.2]) (v := .int .u64 r1.2) rfl rfl rfl) rfl rfl ?_
    rintro u aq15 wq15 hf haq15 hsq15
    obtain rfl := Eq.symm hf
    clear haq14 hsq14 aq14 wq14
    refine seq_op0 haq15 hsq15 (opT_assign (v := .int .u64 r1.1) rfl rfl) rfl rfl ?_
    rintro u aq16 wq16 hf haq16 hsq16
    obtain rfl := Eq.symm hf
    clear haq15 hsq15 aq15 wq15
    refine seq_op0 haq16 hsq16 (opT_assign (v := .int .u64 r1.2) rfl rfl) rfl rfl ?_
    rintro u aq17 wq17 hf haq17 hsq17
    obtain rfl := Eq.symm hf
    clear haq16 hsq16 aq16 wq16
    refine wpList_nil ?_
    replace haq17 := haq17.pick' (L' := [(0, va0), (5, .int .u64 r1.1), (6, .int .u64 r1.2)]) ⟨rfl, rfl, rfl, trivial⟩
    refine nrm ?_
    obtain ⟨s2, hj2, hm⟩ := bind_some hm
    refine wp_seq_cut (fun a w => Agr 48 a [(0, va0), (6, .int .u64 r1.2)] ∧ St I w0 w [F]) ?_ ?_
    · replace hm := hj2
      refine wp_seq ?_
      refine wp_region_lit ?_
      refine seq_op0 haq17 hsq17 (opT_move (v := .int .u64 r1.1) rfl rfl) rfl rfl ?_
      rintro u aq27 wq27 hf haq27 hsq27
      obtain rfl := Eq.symm hf
      clear haq17 hsq17 aq17 wq17
      refine seq_op0 haq27 hsq27 (opT_cmp (k := .u64) (m := r1.1) (n := 0) (c := decide (r1.1 > 0)) rfl rfl rfl rfl rfl) rfl rfl ?_
      rintro u aq28 wq28 hf haq28 hsq28
      obtain rfl := Eq.symm hf
      clear haq27 hsq27 aq27 wq27
      refine seq_op0 haq28 hsq28 (opT_move (v := .bool (decide (r1.1 > 0))) rfl rfl) rfl rfl ?_
      rintro u aq29 wq29 hf haq29 hsq29
      obtain rfl := Eq.symm hf
      clear haq28 hsq28 aq28 wq28
      rcases two (decide (r1.1 > 0)) with hb5 | hb5
      · replace hm := ifFe hb5 hm
        refine seq_op_g0 (g := 2) (d := 23) (want := false) (b := decide (r1.1 > 0)) haq29 hsq29 rfl rfl rfl hb5 (opT_move (v := .int .u64 r1.2) rfl rfl) rfl ?_
        rintro u aq30 wq30 hf haq30 hsq30
        obtain rfl := Eq.symm hf
        clear haq29 hsq29 aq29 wq29
        refine seq_op_g0 (g := 2) (d := 23) (want := false) (b := decide (r1.1 > 0)) haq30 hsq30 rfl rfl rfl hb5 (opT_cmp (k := .u64) (m := r1.2) (n := 9223372036854775807) (c := decide (r1.2 > 9223372036854775807)) rfl rfl rfl rfl rfl) rfl ?_
        rintro u aq31 wq31 hf haq31 hsq31
        obtain rfl := Eq.symm hf
        clear haq30 hsq30 aq30 wq30
        refine seq_op0 haq31 hsq31 (opT_pick (b := decide (r1.1 > 0)) (v := .bool (decide (r1.2 > 9223372036854775807))) rfl rfl (ifF hb5)) rfl rfl ?_
        rintro u aq32 wq32 hf haq32 hsq32
        obtain rfl := Eq.symm hf
        clear haq31 hsq31 aq31 wq31
        refine wpList_nil ?_
        replace haq32 := haq32.pick' (L' := [(0, va0), (6, .int .u64 r1.2), (26, .bool (decide (r1.2 > 9223372036854775807)))]) ⟨rfl, rfl, rfl, trivial⟩
        refine nrm ?_
        rcases two (decide (r1.2 > 9223372036854775807)) with hb6 | hb6
        · replace hm := ifFe hb6 hm
          refine cnd_false (b := decide (r1.2 > 9223372036854775807)) haq32 rfl rfl hb6 ?_
          refine wp_skip ?_
          refine nrm ?_
          obtain rfl := Option.some.inj hm
          exact ⟨haq32.pick' ⟨rfl, rfl, trivial⟩, St.sel hsq32 1 [0] rfl rfl⟩
        · replace hm := ifTe hb6 hm
          refine cnd_true (b := decide (r1.2 > 9223372036854775807)) haq32 rfl rfl hb6 ?_
          cases hm
      · replace hm := ifTe hb5 hm
        refine seq_skip (g := 2) (d := 23) (want := false) (b := decide (r1.1 > 0)) haq29 hsq29 rfl rfl rfl hb5 rfl ?_
        intro aq33 haq33
        refine seq_skip (g := 2) (d := 23) (want := false) (b := decide (r1.1 > 0)) haq33 hsq29 rfl rfl rfl hb5 rfl ?_
        intro aq34 haq34
        refine seq_op0 haq34 hsq29 (opT_pick (b := decide (r1.1 > 0)) (v := .bool true) rfl rfl (ifT hb5)) rfl rfl ?_
        rintro u aq35 wq35 hf haq35 hsq35
        obtain rfl := Eq.symm hf
        clear haq34 hsq29 aq34 wq29
        refine wpList_nil ?_
        replace haq35 := haq35.pick' (L' := [(0, va0), (6, .int .u64 r1.2), (26, .bool true)]) ⟨rfl, rfl, rfl, trivial⟩
        refine nrm ?_
        refine cnd_true (b := true) haq35 rfl rfl rfl ?_
        cases hm
    · rintro aq36 wq36 ⟨haq36, hsq36⟩
      refine wp_seq ?_
      refine wp_region_lit ?_
      refine seq_op0 haq36 hsq36 (opT_move (v := .int .u64 r1.2) rfl rfl) rfl rfl ?_
      rintro u aq37 wq37 hf haq37 hsq37
      obtain rfl := Eq.symm hf
      clear haq36 hsq36 aq36 wq36
      refine seq_op0 haq37 hsq37 (opT_conv_int (m := r1.2) Try.underlying199 Try.underlying3 rfl rfl) rfl rfl ?_
      rintro u aq38 wq38 hf haq38 hsq38
      obtain rfl := Eq.symm hf
      clear haq37 hsq37 aq37 wq37
      obtain ⟨x1, hk1, hm⟩ := bind_some hm
      refine seq_op haq38 hsq38 rfl (opT_mk (E := 3) (R := rInt) (zv := .int .i64 0) (z := (0 : Int)) zro_flat Try.underlying34 tz3 rfl rfl (by decide) (by decide) rfl rfl hk1) (List.Perm.refl _) rfl ?_
      rintro v1 aq39 wq39 - haq39 (hsq39 : St I w0 wq39 [Ch.own (rSlice 3 rInt) [v1] x1, F])
      clear haq38 hsq38 aq38 wq38
      refine seq_op0 haq39 hsq39 (opT_assign (v := v1) rfl rfl) rfl rfl ?_
      rintro u aq40 wq40 hf haq40 hsq40
      obtain rfl := Eq.symm hf
      clear haq39 hsq39 aq39 wq39
      refine wpList_nil ?_
      replace haq40 := haq40.pick' (L' := [(0, va0), (7, v1)]) ⟨rfl, rfl, trivial⟩
      refine nrm ?_
      refine wp_seq ?_
      refine wp_region_lit ?_
      refine seq_op0 haq40 hsq40 (opT_move (v := v1) rfl rfl) rfl rfl ?_
      rintro u aq41 wq41 hf haq41 hsq41
      obtain rfl := Eq.symm hf
      clear haq40 hsq40 aq40 wq40
      refine seq_op0 haq41 hsq41 (opT_move (v := va0) rfl rfl) rfl rfl ?_
      rintro u aq42 wq42 hf haq42 hsq42
      obtain rfl := Eq.symm hf
      clear haq41 hsq41 aq41 wq41
      refine seq_op haq42 hsq42 rfl (opT_copy_rd (E := 3) (v := v1) (u := va0) (xs := x1) (ys := p0x) (lo := 0) ra0 Try.underlying34 (ti_one ti3) rfl rfl rfl (Nat.zero_le _) (.inl ⟨rfl, rfl⟩)) (perm_front (i := 0) rfl) rfl ?_
      rintro u aq43 wq43 hf haq43 (hsq43 : St I w0 wq43 [Ch.own (rSlice 3 rInt) [v1] (cpyI x1 0 p0x), F])
      obtain rfl := Eq.symm hf
      clear haq42 hsq42 aq42 wq42
      refine seq_op0 haq43 hsq43 (opT_assign (v := .int .i64 ((min p0x.length (x1.length - 0) : Nat) : Int)) rfl rfl) rfl rfl ?_
      rintro u aq44 wq44 hf haq44 hsq44
      obtain rfl := Eq.symm hf
      clear haq43 hsq43 aq43 wq43
      refine wpList_nil ?_
      replace haq44 := haq44.pick' (L' := [(7, v1), (8, .int .i64 ((min p0x.length (x1.length - 0) : Nat) : Int))]) ⟨rfl, rfl, trivial⟩
      refine nrm ?_
      obtain ⟨o3, hl1, hc3⟩ := bindL_some hm
      refine wp_seq_cut (fun a w => ∃ s6 : (List Int) × Int, o3 = .brk s6 ∧ Agr 48 a [(7, v1)] ∧ St I w0 w [Ch.own (rSlice 3 rInt) [v1] s6.1, F]) ?_ ?_
      · refine wp_block (wp_loopM (R := List Int) (S := (List Int) × Int) (fun s5 a w => Agr 48 a [(7, v1), (8, .int .i64 s5.2)] ∧ St I w0 w [Ch.own (rSlice 3 rInt) [v1] s5.1, F]) hl1 ?_ ?_)
        · exact ⟨haq44.pick' ⟨rfl, rfl, trivial⟩, St.sel hsq44 2 [0, 1] rfl rfl⟩
        · rintro s5 o4 hm hf1 aq53 wq53 ⟨haq53, hsq53⟩
          unfold m_g_slices_Repeat_S_int_int_l0 at hm
          refine wp_seq ?_
          refine wp_seq ?_
          refine wp_region_lit ?_
          refine seq_op0 haq53 hsq53 (opT_move (v := .int .i64 s5.2) rfl rfl) rfl rfl ?_
          rintro u aq54 wq54 hf haq54 hsq54
          obtain rfl := Eq.symm hf
          clear haq53 hsq53 aq53 wq53
          refine seq_op0 haq54 hsq54 (opT_move (v := v1) rfl rfl) rfl rfl ?_
          rintro u aq55 wq55 hf haq55 hsq55
          obtain rfl := Eq.symm hf
          clear haq54 hsq54 aq54 wq54
          refine seq_op0 haq55 hsq55 (opT_len_hd (v := v1) (n := s5.1.length) (St.hd hsq55 0 rfl).1 Try.underlying34 rfl rfl) rfl rfl ?_
          rintro u aq56 wq56 hf haq56 hsq56
          obtain rfl := Eq.symm hf
          clear haq55 hsq55 aq55 wq55
          refine seq_op0 haq56 hsq56 (opT_cmp (k := .i64) (m := s5.2) (n := (s5.1.length : Int)) (c := decide (s5.2 < (s5.1.length : Int))) rfl rfl rfl rfl rfl) rfl rfl ?_
          rintro u aq57 wq57 hf haq57 hsq57
          obtain rfl := Eq.symm hf
          clear haq56 hsq56 aq56 wq56
          refine wpList_nil ?_
          replace haq57 := haq57.pick' (L' := [(7, v1), (8, .int .i64 s5.2), (37, .bool (decide (s5.2 < (s5.1.length : Int))))]) ⟨rfl, rfl, rfl, trivial⟩
          refine nrm ?_
          rcases two (decide (s5.2 < (s5.1.length : Int))) with hb9 | hb9
          · replace hm := ifFe hb9 hm
            refine cnd_false (b := decide (s5.2 < (s5.1.length : Int))) haq57 rfl rfl hb9 ?_
            refine wp_exit ?_
            refine thenX ?_
            refine thenX ?_
            refine ex_in ?_
            refine nrm ?_
            exact ⟨_, loopBrk hm hf1, ⟨haq57.pick' ⟨rfl, trivial⟩, St.sel hsq57 2 [0, 1] rfl rfl⟩⟩
          · replace hm := ifTe hb9 hm
            refine cnd_true (b := decide (s5.2 < (s5.1.length : Int))) haq57 rfl rfl hb9 ?_
            refine wp_skip ?_
            refine nrm ?_
            refine wp_block ?_
            obtain ⟨_, hk10, hm⟩ := bind_some hm
            have hd1 := (St.hd hsq57 0 rfl).1
            obtain ⟨_, hk11, hm⟩ := bind_some hm
            obtain ⟨_, hk12, hm⟩ := bind_some hm
            obtain ⟨_, hk13, hm⟩ := bind_some hm
            refine wp_draw (L := [(7, v1), (8, .int .i64 s5.2), (37, .bool (decide (s5.2 < (s5.1.length : Int))))]) (C := [F]) { ops := [⟨[], [], [], [0], fun | [xo0] => xo0 = .int .i64 s5.2 | _ => True, [(8, none)]⟩, ⟨[], [], [], [1], fun | [xo1] => xo1 = v1 | _ => True, [(7, none)]⟩, ⟨[], [], [], [2], fun | [xo2] => xo2 = .int .i64 s5.2 | _ => True, [(8, none)]⟩, ⟨[], [], [], [3], fun | [xo3] => xo3 = subV v1 s5.2.toNat s5.1.length 1 | _ => True, [(39, some 1), (40, some 2)]⟩, ⟨[], [], [], [4], fun | [xo4] => xo4 = v1 | _ => True, [(7, none)]⟩, ⟨[], [], [], [5], fun | [xo5] => xo5 = .int .i64 s5.2 | _ => True, [(8, none)]⟩, ⟨[], [], [], [6], fun | [xo6] => xo6 = subV v1 0 s5.2.toNat 1 | _ => True, [(42, some 4), (43, some 5)]⟩, ⟨[], [0], [1], [7], fun | [xo7] => xo7 = .int .i64 ((min (s5.1.take s5.2.toNat).length (s5.1.length - s5.2.toNat) : Nat) : Int) | _ => True, [(41, some 3), (44, some 6)]⟩, ⟨[], [], [], [8], fun | [xo8] => xo8 = .int .i64 (IntKind.i64.wrap (s5.2 + ((min (s5.1.take s5.2.toNat).length (s5.1.length - s5.2.toNat) : Nat) : Int))) | _ => True, [(38, some 0), (45, some 7)]⟩, ⟨[], [], [], [9], fun | [xo9] => xo9 = .int .i64 (IntKind.i64.wrap (s5.2 + ((min (s5.1.take s5.2.toNat).length (s5.1.length - s5.2.toNat) : Nat) : Int))) | _ => True, [(46, some 8)]⟩], res := [⟨[], fun _ => Ch.own (rSlice 3 rInt) [v1] s5.1⟩, ⟨[], fun _ => Ch.own (rSlice 3 rInt) [v1] (cpyI s5.1 s5.2.toNat (s5.1.take s5.2.toNat))⟩], base := [0], pre := [[], [], [], [1, 2], [], [], [4, 5], [1, 2, 3, 4, 5, 6], [0, 1, 2, 3, 4, 5, 6, 7], [0, 1, 2, 3, 4, 5, 6, 7, 8]], fin := [(7, none), (8, some 9)], left := [1] } (by kernel_rfl) haq57 hsq57 (perm_sel [0, 1] (m := 2) rfl rfl) (by kernel_rfl) (by kernel_rfl) ?_ ?_
            · exact ⟨Plan.goal_run fun vs hf => ⟨wants_none rfl, OpT.conv (OpT.evs (ev' := evL [(8, .int .i64 s5.2)]) (opT_move (v := .int .i64 s5.2) rfl rfl) rfl [.tmp 8] rfl ⟨rfl, trivial⟩) rfl (fun _ h => Eq.trans h rfl) (fun _ => rfl)⟩, Plan.goal_run fun vs hf => ⟨wants_none rfl, OpT.conv (OpT.evs (ev' := evL [(7, v1)]) (opT_move (v := v1) rfl rfl) rfl [.tmp 7] rfl ⟨rfl, trivial⟩) rfl (fun _ h => Eq.trans h rfl) (fun _ => rfl)⟩, Plan.goal_run fun vs hf => ⟨wants_none rfl, OpT.conv (OpT.evs (ev' := evL [(8, .int .i64 s5.2)]) (opT_move (v := .int .i64 s5.2) rfl rfl) rfl [.tmp 8] rfl ⟨rfl, trivial⟩) rfl (fun _ h => Eq.trans h rfl) (fun _ => rfl)⟩, Plan.goal_run fun vs hf => ⟨wants_none rfl, OpT.conv (OpT.evs (ev' := evL [(39, v1), (40, .int .i64 s5.2)]) (opT_slice_l (v := v1) (len := s5.1.length) (n := 1) (l := s5.2) Try.underlying34 ti3 hd1 rfl rfl rfl (chk_some hk10)) rfl [.tmp 39, .tmp 40] rfl ⟨(hf 1 (mb rfl)), (hf 2 (mb rfl)), trivial⟩) rfl (fun _ h => Eq.trans h rfl) (fun _ => rfl)⟩, Plan.goal_run fun vs hf => ⟨wants_none rfl, OpT.conv (OpT.evs (ev' := evL [(7, v1)]) (opT_move (v := v1) rfl rfl) rfl [.tmp 7] rfl ⟨rfl, trivial⟩) rfl (fun _ h => Eq.trans h rfl) (fun _ => rfl)⟩, Plan.goal_run fun vs hf => ⟨wants_none rfl, OpT.conv (OpT.evs (ev' := evL [(8, .int .i64 s5.2)]) (opT_move (v := .int .i64 s5.2) rfl rfl) rfl [.tmp 8] rfl ⟨rfl, trivial⟩) rfl (fun _ h => Eq.trans h rfl) (fun _ => rfl)⟩, Plan.goal_run fun vs hf => ⟨wants_none rfl, OpT.conv (OpT.evs (ev' := evL [(42, v1), (43, .int .i64 s5.2)]) (opT_slice_h (v := v1) (len := s5.1.length) (n := 1) (l := s5.2) Try.underlying34 ti3 hd1 rfl rfl rfl (chk_some hk11)) rfl [.tmp 42, .tmp 43] rfl ⟨(hf 4 (mb rfl)), (hf 5 (mb rfl)), trivial⟩) rfl (fun _ h => Eq.trans h rfl) (fun _ => rfl)⟩, Plan.goal_run fun vs hf => ⟨wants_none rfl, OpT.conv (OpT.evs (ev' := evL [(41, subV v1 s5.2.toNat s5.1.length 1), (44, subV v1 0 s5.2.toNat 1)]) (opT_copy_self (E := 3) (v := v1) (xs := s5.1) (lo := s5.2.toNat) (hi := s5.2.toNat) Try.underlying34 (ti_one ti3) rfl rfl rfl (chk_some hk12) (chk_some hk13) (.inr rfl)) rfl [.tmp 41, .tmp 44] rfl ⟨(hf 3 (mb rfl)), (hf 6 (mb rfl)), trivial⟩) rfl (fun _ h => Eq.trans h rfl) (fun _ => rfl)⟩, Plan.goal_run fun vs hf => ⟨wants_none rfl, OpT.conv (OpT.evs (ev' := evL [(38, .int .i64 s5.2), (45, .int .i64 ((min (s5.1.take s5.2.toNat).length (s5.1.length - s5.2.toNat) : Nat) : Int))]) (opT_add (m := s5.2) (n := ((min (s5.1.take s5.2.toNat).length (s5.1.length - s5.2.toNat) : Nat) : Int)) rfl rfl rfl) rfl [.tmp 38, .tmp 45] rfl ⟨(hf 0 (mb rfl)), (hf 7 (mb rfl)), trivial⟩) rfl (fun _ h => Eq.trans h rfl) (fun _ => rfl)⟩, Plan.goal_run fun vs hf => ⟨wants_none rfl, OpT.conv (OpT.evs (ev' := evL [(46, .int .i64 (IntKind.i64.wrap (s5.2 + ((min (s5.1.take s5.2.toNat).length (s5.1.length - s5.2.toNat) : Nat) : Int))))]) (opT_assign (v := .int .i64 (IntKind.i64.wrap (s5.2 + ((min (s5.1.take s5.2.toNat).length (s5.1.length - s5.2.toNat) : Nat) : Int)))) rfl rfl) rfl [.tmp 46] rfl ⟨(hf 8 (mb rfl)), trivial⟩) rfl (fun _ h => Eq.trans h rfl) (fun _ => rfl)⟩, trivial⟩
            intro vs aq58 wq58 hf haq58 hsq58
            clear haq57 hsq57
            replace haq58 := haq58.pick' (L' := [(7, v1), (8, .int .i64 (IntKind.i64.wrap (s5.2 + ((min (s5.1.take s5.2.toNat).length (s5.1.length - s5.2.toNat) : Nat) : Int))))]) ⟨rfl, (congrArg some (show _ = _ from (hf 9 (Nat.le_of_ble_eq_true rfl)))), trivial⟩
            replace hsq58 : St I w0 wq58 [Ch.own (rSlice 3 rInt) [v1] (cpyI s5.1 s5.2.toNat (s5.1.take s5.2.toNat)), F] := hsq58
            clear hf vs
            refine nrmB ?_
            refine nrm ?_
            exact ⟨_, (Option.some.inj hm).symm, ⟨haq58.pick' ⟨rfl, rfl, trivial⟩, St.sel hsq58 2 [0, 1] rfl rfl⟩⟩
      · rintro aq59 wq59 ⟨s6, ho3, haq59, hsq59⟩
        replace hm := loopOut ho3 hc3
        clear ho3 hc3 hl1
        refine wp_seq ?_
        refine wp_region_lit ?_
        refine seq_op0 haq59 hsq59 (opT_move (v := v1) rfl rfl) rfl rfl ?_
        rintro u aq60 wq60 hf haq60 hsq60
        obtain rfl := Eq.symm hf
        clear haq59 hsq59 aq59 wq59
        refine seq_op0 haq60 hsq60 (opT_assign (v := v1) rfl rfl) rfl rfl ?_
        rintro u aq61 wq61 hf haq61 hsq61
        obtain rfl := Eq.symm hf
        clear haq60 hsq60 aq60 wq60
        refine wpList_nil ?_
        replace haq61 := haq61.pick' (L' := [(4, v1)]) ⟨rfl, trivial⟩
        refine nrm ?_
        refine wp_ret ?_
        obtain rfl := Option.some.inj hm
        exact ret_1 haq61 rfl (res_tmp haq61 rfl) ⟨_, rfl, trivial, _, Hp.le.rfl, St.sel (hsq61) 2 [0, 1] rfl rfl⟩
set_option maxHeartbeats 8000000 in
theorem c_i_Automaton_move (p0a : Int × (List Bool) × (List (List Int))) (p1s : Int) (p2letter : Int) (r : Int) (hm : m_i_Automaton_move p0a p1s p2letter = some r) {I : Hp} {w0 : World} (va0 : Value) (va1 : Value) (ra0 : (rSlice 4 rBool).rd I [va0] p0a.2.1) (ra1 : (rSlice 34 (rSlice 3 rInt)).rd I [va1] p0a.2.2) : Con Try.prog 101 #[.agg #[.int .i64 p0a.1, va0, va1], .int .i64 p1s, .int .i64 p2letter] I w0 [] (fun v => v = .int .i64 r) (fun v => []) := by
  refine con_of_wp (n := 22) [(0, .agg #[.int .i64 p0a.1, va0, va1]), (1, .int .i64 p1s), (2, .int .i64 p2letter)] Try.func101 rfl rfl (Nat.le_of_ble_eq_true rfl) (args_all ⟨rfl, rfl, rfl, trivial⟩) (fun F w a ha hs => ?_) (fun v => trivial)
  unfold m_i_Automaton_move at hm
  refine wp_seq ?_
  refine wp_region_lit ?_
  refine seq_op ha hs rfl (opT_box (u := .agg #[.int .i64 p0a.1, va0, va1]) (l := [.int .i64 p0a.1, va0, va1]) rfl rfl rfl) (List.Perm.refl _) rfl ?_
  rintro _ aq1 wq1 ⟨g1, rfl⟩ haq1 (hsq1 : St I w0 wq1 [Ch.blk g1 [.int .i64 p0a.1, va0, va1] 27, F])
  clear ha hs a w
  refine seq_op0 haq1 hsq1 (opT_assign (v := .int .i64 0) rfl rfl) rfl rfl ?_
  rintro u aq2 wq2 hf haq2 hsq2
  obtain rfl := Eq.symm hf
  clear haq1 hsq1 aq1 wq1
  refine wpList_nil ?_
  replace haq2 := haq2.pick' (L' := [(1, .int .i64 p1s), (2, .int .i64 p2letter), (3, .pointer (some ⟨g1, 0, none⟩))]) ⟨rfl, rfl, rfl, trivial⟩
  refine nrm ?_
  refine wp_seq ?_
  refine wp_seq ?_
  refine wp_region_lit ?_
  refine seq_op0 haq2 hsq2 (opT_move (v := .int .i64 p1s) rfl rfl) rfl rfl ?_
  rintro u aq3 wq3 hf haq3 hsq3
  obtain rfl := Eq.symm hf
  clear haq2 hsq2 aq2 wq2
  refine seq_op0 haq3 hsq3 (opT_cmp (k := .i64) (m := p1s) (n := 0) (c := decide (p1s < 0)) rfl rfl rfl rfl rfl) rfl rfl ?_
  rintro u aq4 wq4 hf haq4 hsq4
  obtain rfl := Eq.symm hf
  clear haq3 hsq3 aq3 wq3
  refine seq_op0 haq4 hsq4 (opT_move (v := .bool (decide (p1s < 0))) rfl rfl) rfl rfl ?_
  rintro u aq5 wq5 hf haq5 hsq5
  obtain rfl := Eq.symm hf
  clear haq4 hsq4 aq4 wq4
  rcases two (decide (p1s < 0)) with hb1 | hb1
  · replace hm := ifFe hb1 hm
    refine seq_op_g0 (g := 2) (d := 9) (want := false) (b := decide (p1s < 0)) haq5 hsq5 rfl rfl rfl hb1 (opT_move (v := .int .i64 p2letter) rfl rfl) rfl ?_
    rintro u aq6 wq6 hf haq6 hsq6
    obtain rfl := Eq.symm hf
    clear haq5 hsq5 aq5 wq5
    obtain ⟨r1, e1, hm⟩ := bind_some hm
    refine seq_op_g0 (g := 2) (d := 9) (want := false) (b := decide (p1s < 0)) haq6 hsq6 rfl rfl rfl hb1 (opT_call (args := #[.int .i64 p2letter]) (first := #[]) (captured := #[]) en149 rfl rfl rfl (c_i_isLetter p2letter _ e1  )) rfl ?_
    rintro u aq7 wq7 hf haq7 hsq7
    obtain rfl := Eq.symm hf
    clear haq6 hsq6 aq6 wq6
    refine seq_op_g0 (g := 2) (d := 9) (want := false) (b := decide (p1s < 0)) haq7 hsq7 rfl rfl rfl hb1 (opT_not (b := r1) rfl rfl) rfl ?_
    rintro u aq8 wq8 hf haq8 hsq8
    obtain rfl := Eq.symm hf
    clear haq7 hsq7 aq7 wq7
    refine seq_op0 haq8 hsq8 (opT_pick (b := decide (p1s < 0)) (v := .bool (!r1)) rfl rfl (ifF hb1)) rfl rfl ?_
    rintro u aq9 wq9 hf haq9 hsq9
    obtain rfl := Eq.symm hf
    clear haq8 hsq8 aq8 wq8
    refine wpList_nil ?_
    replace haq9 := haq9.pick' (L' := [(1, .int .i64 p1s), (2, .int .i64 p2letter), (3, .pointer (some ⟨g1, 0, none⟩)), (13, .bool (!r1))]) ⟨rfl, rfl, rfl, rfl, trivial⟩
    refine nrm ?_
    rcases two (r1) with hb2 | hb2
    · replace hm := ifFe hb2 hm
      refine cnd_true (b := !r1) haq9 rfl rfl (notT hb2) ?_
      refine wp_seq ?_
      refine wp_region_lit ?_
      refine seq_op0 haq9 hsq9 (opT_assign (v := .int .i64 (-1)) rfl rfl) rfl rfl ?_
      rintro u aq10 wq10 hf haq10 hsq10
      obtain rfl := Eq.symm hf
      clear haq9 hsq9 aq9 wq9
      refine wpList_nil ?_
      replace haq10 := haq10.pick' (L' := [(6, .int .i64 (-1))]) ⟨rfl, trivial⟩
      refine nrm ?_
      refine wp_ret ?_
      refine thenR ?_
      obtain rfl := Option.some.inj hm
      exact ret_1 haq10 rfl (res_tmp haq10 rfl) ⟨_, rfl, rfl, _, Hp.le.rfl, St.sel (hsq10) 2 [1] rfl rfl⟩
    · replace hm := ifTe hb2 hm
      refine cnd_false (b := !r1) haq9 rfl rfl (notF hb2) ?_
      refine wp_skip ?_
      refine nrm ?_
      refine wp_seq ?_
      refine wp_region_lit ?_
      refine seq_op0 haq9 hsq9 (opT_field_addr (g := g1) (b := 0) tf27_2 rfl rfl) rfl rfl ?_
      rintro u aq11 wq11 hf haq11 hsq11
      obtain rfl := Eq.symm hf
      clear haq9 hsq9 aq9 wq9
      refine seq_op haq11 hsq11 rfl (opT_load_blk (g := g1) (off := 2) (E := 27) (l := [.int .i64 p0a.1, va0, va1]) (d := [va1]) (u := va1) ti23 rfl rfl rfl rfl rfl rfl) (perm_front (i := 0) rfl) rfl ?_
      rintro u aq12 wq12 hf haq12 (hsq12 : St I w0 wq12 [Ch.blk g1 [.int .i64 p0a.1, va0, va1] 27, F])
      obtain rfl := Eq.symm hf
      clear haq11 hsq11 aq11 wq11
      refine seq_op0 haq12 hsq12 (opT_move (v := .int .i64 p1s) rfl rfl) rfl rfl ?_
      rintro u aq13 wq13 hf haq13 hsq13
      obtain rfl := Eq.symm hf
      clear haq12 hsq12 aq12 wq12
      obtain ⟨x1, e2, hm⟩ := bind_some hm
      refine seq_op0 haq13 hsq13 (opT_index_hd (xs := p0a.2.2) (i := p1s) (n := 1) (Hd.of_rd ra1) Try.underlying23 ti34 rfl rfl rfl (getI_in e2)) rfl rfl ?_
      rintro u aq14 wq14 hf haq14 hsq14
      obtain rfl := Eq.symm hf
      clear haq13 hsq13 aq13 wq13
      refine seq_op0 haq14 hsq14 (opT_load_el (S := rSlice 3 rInt) (xs := p0a.2.2) (a := x1) (i := p1s) (k := 1) (off := 0) (f := fun (x : List Int) => x) ra1 e2 Fld.self ti34 rfl rfl rfl rfl rfl) rfl rfl ?_
      rintro v1 aq15 wq15 hf haq15 hsq15
      have r2 := lds_sl hf
      clear hf
      clear haq14 hsq14 aq14 wq14
      refine seq_op0 haq15 hsq15 (opT_move (v := .int .i64 p2letter) rfl rfl) rfl rfl ?_
      rintro u aq16 wq16 hf haq16 hsq16
      obtain rfl := Eq.symm hf
      clear haq15 hsq15 aq15 wq15
      obtain ⟨x2, e3, hm⟩ := bind_some hm
      refine seq_op0 haq16 hsq16 (opT_index_hd (xs := x1) (i := p2letter) (n := 1) (Hd.of_rd r2) Try.underlying34 ti3 rfl rfl rfl (getI_in e3)) rfl rfl ?_
      rintro u aq17 wq17 hf haq17 hsq17
      obtain rfl := Eq.symm hf
      clear haq16 hsq16 aq16 wq16
      refine seq_op0 haq17 hsq17 (opT_load_el (S := rInt) (xs := x1) (a := x2) (i := p2letter) (k := 1) (off := 0) (f := fun (x : Int) => x) r2 e3 Fld.self ti3 rfl rfl rfl rfl rfl) rfl rfl ?_
      rintro u aq18 wq18 hf haq18 hsq18
      obtain rfl := lds_one hf
      clear haq17 hsq17 aq17 wq17
      refine seq_op0 haq18 hsq18 (opT_assign (v := .int .i64 x2) rfl rfl) rfl rfl ?_
      rintro u aq19 wq19 hf haq19 hsq19
      obtain rfl := Eq.symm hf
      clear haq18 hsq18 aq18 wq18
      refine wpList_nil ?_
      replace haq19 := haq19.pick' (L' := [(6, .int .i64 x2)]) ⟨rfl, trivial⟩
      refine nrm ?_
      refine wp_ret ?_
      obtain rfl := Option.some.inj hm
      exact ret_1 haq19 rfl (res_tmp haq19 rfl) ⟨_, rfl, rfl, _, Hp.le.rfl, St.sel (hsq19) 2 [1] rfl rfl⟩
  · replace hm := ifTe hb1 hm
    refine seq_skip (g := 2) (d := 9) (want := false) (b := decide (p1s < 0)) haq5 hsq5 rfl rfl rfl hb1 rfl ?_
    intro aq20 haq20
    refine seq_skip (g := 2) (d := 9) (want := false) (b := decide (p1s < 0)) haq20 hsq5 rfl rfl rfl hb1 rfl ?_
    intro aq21 haq21
    refine seq_skip (g := 2) (d := 9) (want := false) (b := decide (p1s < 0)) haq21 hsq5 rfl rfl rfl hb1 rfl ?_
    intro aq22 haq22
    refine seq_op0 haq22 hsq5 (opT_pick (b := decide (p1s < 0)) (v := .bool true) rfl rfl (ifT hb1)) rfl rfl ?_
    rintro u aq23 wq23 hf haq23 hsq23
    obtain rfl := Eq.symm hf
    clear haq22 hsq5 aq22 wq5
    refine wpList_nil ?_
    replace haq23 := haq23.pick' (L' := [(1, .int .i64 p1s), (2, .int .i64 p2letter), (3, .pointer (some ⟨g1, 0, none⟩)), (13, .bool true)]) ⟨rfl, rfl, rfl, rfl, trivial⟩
    refine nrm ?_
    refine cnd_true (b := true) haq23 rfl rfl rfl ?_
    refine wp_seq ?_
    refine wp_region_lit ?_
    refine seq_op0 haq23 hsq23 (opT_assign (v := .int .i64 (-1)) rfl rfl) rfl rfl ?_
    rintro u aq24 wq24 hf haq24 hsq24
    obtain rfl := Eq.symm hf
    clear haq23 hsq23 aq23 wq23
    refine wpList_nil ?_
    replace haq24 := haq24.pick' (L' := [(6, .int .i64 (-1))]) ⟨rfl, trivial⟩
    refine nrm ?_
    refine wp_ret ?_
    refine thenR ?_
    obtain rfl := Option.some.inj hm
    exact ret_1 haq24 rfl (res_tmp haq24 rfl) ⟨_, rfl, rfl, _, Hp.le.rfl, St.sel (hsq24) 2 [1] rfl rfl⟩
end Go.Proofs.Ytcihbmdppgpmjaa.D
