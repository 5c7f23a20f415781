/- Printed by dec.py: models of functions and the walks that show them. -/
import Derived.Test.YtcihbmdppgpmjaaIm
set_option linter.unusedVariables false
set_option linter.unusedSimpArgs false
set_option linter.unnecessarySimpa false
set_option maxRecDepth 100000
namespace Go.Proofs.Ytcihbmdppgpmjaa.D
open Go.RowKit
set_option maxHeartbeats 8000000 in
theorem c_s_l2Cmp (p0a : List Int) (p1b : List Int) (r : Int) (hm : m_s_l2Cmp p0a p1b = some r) {I : Hp} {w0 : World} (va0 : Value) (va1 : Value) (ra0 : (rSlice 3 rInt).rd I [va0] p0a) (ra1 : (rSlice 3 rInt).rd I [va1] p1b) : Con Try.prog 104 #[va0, va1] I w0 [] (fun v => v = .int .i64 r) (fun v => []) := by
  refine con_of_wp (n := 46) [(0, va0), (1, va1)] Try.func104 rfl rfl (Nat.le_of_ble_eq_true rfl) (args_all ⟨rfl, rfl, trivial⟩) (fun F w a ha hs => ?_) (fun v => trivial)
  unfold m_s_l2Cmp at hm
  refine wp_seq ?_
  refine wp_region_lit ?_
  refine seq_op0 ha hs (opT_assign (v := .int .i64 0) rfl rfl) rfl rfl ?_
  rintro u aq1 wq1 hf haq1 hsq1
  obtain rfl := Eq.symm hf
  clear ha hs a w
  refine wpList_nil ?_
  replace haq1 := haq1.pick' (L' := [(0, va0), (1, va1)]) ⟨rfl, rfl, trivial⟩
  refine nrm ?_
  refine wp_seq ?_
  refine wp_seq ?_
  refine wp_region_lit ?_
  refine seq_op0 haq1 hsq1 (opT_assign (v := .int .i64 0) rfl rfl) rfl rfl ?_
  rintro u aq2 wq2 hf haq2 hsq2
  obtain rfl := Eq.symm hf
  clear haq1 hsq1 aq1 wq1
  refine wpList_nil ?_
  replace haq2 := haq2.pick' (L' := [(0, va0), (1, va1), (5, .int .i64 0)]) ⟨rfl, rfl, rfl, trivial⟩
  refine nrm ?_
  obtain ⟨o1, hl1, hc1⟩ := bindL_some hm
  refine wp_cut (fun a w => ∃ s4 : Int, o1 = .brk s4 ∧ Agr 46 a [(0, va0), (1, va1)] ∧ St I w0 w [F]) ?_ ?_
  · refine wp_block (wp_loopM (R := Int) (S := Int) (fun s3 a w => Agr 46 a [(0, va0), (1, va1), (5, .int .i64 s3)] ∧ St I w0 w [F]) hl1 ?_ ?_)
    · exact ⟨haq2.pick' ⟨rfl, rfl, rfl, trivial⟩, St.sel hsq2 1 [0] rfl rfl⟩
    · rintro s3 o2 hm hf1 aq43 wq43 ⟨haq43, hsq43⟩
      unfold m_s_l2Cmp_l0 at hm
      refine wp_seq ?_
      refine wp_seq ?_
      refine wp_region_lit ?_
      refine seq_op0 haq43 hsq43 (opT_move (v := .int .i64 s3) rfl rfl) rfl rfl ?_
      rintro u aq44 wq44 hf haq44 hsq44
      obtain rfl := Eq.symm hf
      clear haq43 hsq43 aq43 wq43
      refine seq_op0 haq44 hsq44 (opT_move (v := va0) rfl rfl) rfl rfl ?_
      rintro u aq45 wq45 hf haq45 hsq45
      obtain rfl := Eq.symm hf
      clear haq44 hsq44 aq44 wq44
      refine seq_op0 haq45 hsq45 (opT_len_hd (v := va0) (n := p0a.length) (Hd.of_rd ra0) Try.underlying34 rfl rfl) rfl rfl ?_
      rintro u aq46 wq46 hf haq46 hsq46
      obtain rfl := Eq.symm hf
      clear haq45 hsq45 aq45 wq45
      refine seq_op0 haq46 hsq46 (opT_cmp (k := .i64) (m := s3) (n := (p0a.length : Int)) (c := decide (s3 < (p0a.length : Int))) rfl rfl rfl rfl rfl) rfl rfl ?_
      rintro u aq47 wq47 hf haq47 hsq47
      obtain rfl := Eq.symm hf
      clear haq46 hsq46 aq46 wq46
      refine seq_op0 haq47 hsq47 (opT_move (v := .bool (decide (s3 < (p0a.length : Int)))) rfl rfl) rfl rfl ?_
      rintro u aq48 wq48 hf haq48 hsq48
      obtain rfl := Eq.symm hf
      clear haq47 hsq47 aq47 wq47
      rcases two (decide (s3 < (p0a.length : Int))) with hb9 | hb9
      · replace hm := ifFe hb9 hm
        refine seq_skip (g := 4) (d := 10) (want := true) (b := decide (s3 < (p0a.length : Int))) haq48 hsq48 rfl rfl rfl hb9 rfl ?_
        intro aq49 haq49
        refine seq_skip (g := 4) (d := 10) (want := true) (b := decide (s3 < (p0a.length : Int))) haq49 hsq48 rfl rfl rfl hb9 rfl ?_
        intro aq50 haq50
        refine seq_skip (g := 4) (d := 10) (want := true) (b := decide (s3 < (p0a.length : Int))) haq50 hsq48 rfl rfl rfl hb9 rfl ?_
        intro aq51 haq51
        refine seq_skip (g := 4) (d := 10) (want := true) (b := decide (s3 < (p0a.length : Int))) haq51 hsq48 rfl rfl rfl hb9 rfl ?_
        intro aq52 haq52
        refine seq_op0 haq52 hsq48 (opT_pick (b := decide (s3 < (p0a.length : Int))) (v := .bool false) rfl rfl (ifF hb9)) rfl rfl ?_
        rintro u aq53 wq53 hf haq53 hsq53
        obtain rfl := Eq.symm hf
        clear haq52 hsq48 aq52 wq48
        refine wpList_nil ?_
        replace haq53 := haq53.pick' (L' := [(0, va0), (1, va1), (5, .int .i64 s3), (15, .bool false)]) ⟨rfl, rfl, rfl, rfl, trivial⟩
        refine nrm ?_
        refine cnd_false (b := false) haq53 rfl rfl rfl ?_
        refine wp_exit ?_
        refine thenX ?_
        refine thenX ?_
        refine ex_in ?_
        refine nrm ?_
        exact ⟨_, loopBrk hm hf1, ⟨haq53.pick' ⟨rfl, rfl, trivial⟩, St.sel hsq53 1 [0] rfl rfl⟩⟩
      · replace hm := ifTe hb9 hm
        refine seq_op_g0 (g := 4) (d := 10) (want := true) (b := decide (s3 < (p0a.length : Int))) haq48 hsq48 rfl rfl rfl hb9 (opT_move (v := .int .i64 s3) rfl rfl) rfl ?_
        rintro u aq54 wq54 hf haq54 hsq54
        obtain rfl := Eq.symm hf
        clear haq48 hsq48 aq48 wq48
        refine seq_op_g0 (g := 4) (d := 10) (want := true) (b := decide (s3 < (p0a.length : Int))) haq54 hsq54 rfl rfl rfl hb9 (opT_move (v := va1) rfl rfl) rfl ?_
        rintro u aq55 wq55 hf haq55 hsq55
        obtain rfl := Eq.symm hf
        clear haq54 hsq54 aq54 wq54
        refine seq_op_g0 (g := 4) (d := 10) (want := true) (b := decide (s3 < (p0a.length : Int))) haq55 hsq55 rfl rfl rfl hb9 (opT_len_hd (v := va1) (n := p1b.length) (Hd.of_rd ra1) Try.underlying34 rfl rfl) rfl ?_
        rintro u aq56 wq56 hf haq56 hsq56
        obtain rfl := Eq.symm hf
        clear haq55 hsq55 aq55 wq55
        refine seq_op_g0 (g := 4) (d := 10) (want := true) (b := decide (s3 < (p0a.length : Int))) haq56 hsq56 rfl rfl rfl hb9 (opT_cmp (k := .i64) (m := s3) (n := (p1b.length : Int)) (c := decide (s3 < (p1b.length : Int))) rfl rfl rfl rfl rfl) rfl ?_
        rintro u aq57 wq57 hf haq57 hsq57
        obtain rfl := Eq.symm hf
        clear haq56 hsq56 aq56 wq56
        refine seq_op0 haq57 hsq57 (opT_pick (b := decide (s3 < (p0a.length : Int))) (v := .bool (decide (s3 < (p1b.length : Int)))) rfl rfl (ifT hb9)) rfl rfl ?_
        rintro u aq58 wq58 hf haq58 hsq58
        obtain rfl := Eq.symm hf
        clear haq57 hsq57 aq57 wq57
        refine wpList_nil ?_
        replace haq58 := haq58.pick' (L' := [(0, va0), (1, va1), (5, .int .i64 s3), (15, .bool (decide (s3 < (p1b.length : Int))))]) ⟨rfl, rfl, rfl, rfl, trivial⟩
        refine nrm ?_
        rcases two (decide (s3 < (p1b.length : Int))) with hb10 | hb10
        · replace hm := ifFe hb10 hm
          refine cnd_false (b := decide (s3 < (p1b.length : Int))) haq58 rfl rfl hb10 ?_
          refine wp_exit ?_
          refine thenX ?_
          refine thenX ?_
          refine ex_in ?_
          refine nrm ?_
          exact ⟨_, loopBrk hm hf1, ⟨haq58.pick' ⟨rfl, rfl, trivial⟩, St.sel hsq58 1 [0] rfl rfl⟩⟩
        · replace hm := ifTe hb10 hm
          refine cnd_true (b := decide (s3 < (p1b.length : Int))) haq58 rfl rfl hb10 ?_
          refine wp_skip ?_
          refine nrm ?_
          refine wp_seq ?_
          refine wp_block ?_
          refine wp_seq ?_
          refine wp_seq ?_
          obtain ⟨x9, e9, hm⟩ := bind_some hm
          obtain ⟨x10, e10, hm⟩ := bind_some hm
          refine wp_draw (L := [(0, va0), (1, va1), (5, .int .i64 s3), (15, .bool (decide (s3 < (p1b.length : Int))))]) (C := [F]) { ops := [⟨[], [], [], [0], fun | [xo0] => xo0 = va0 | _ => True, [(0, none)]⟩, ⟨[], [], [], [1], fun | [xo1] => xo1 = .int .i64 s3 | _ => True, [(5, none)]⟩, ⟨[], [], [], [2], fun | [xo2] => xo2 = pt va0 (s3.toNat * 1) | _ => True, [(18, some 0), (19, some 1)]⟩, ⟨[], [], [], [3], fun | [xo3] => xo3 = .int .i64 x9 | _ => True, [(20, some 2)]⟩, ⟨[], [], [], [4], fun | [xo4] => xo4 = va1 | _ => True, [(1, none)]⟩, ⟨[], [], [], [5], fun | [xo5] => xo5 = .int .i64 s3 | _ => True, [(5, none)]⟩, ⟨[], [], [], [6], fun | [xo6] => xo6 = pt va1 (s3.toNat * 1) | _ => True, [(22, some 4), (23, some 5)]⟩, ⟨[], [], [], [7], fun | [xo7] => xo7 = .int .i64 x10 | _ => True, [(24, some 6)]⟩, ⟨[], [], [], [8], fun | [xo8] => xo8 = .bool (decide (x9 < x10)) | _ => True, [(21, some 3), (25, some 7)]⟩], res := [], base := [], pre := [[], [], [0, 1], [0, 1, 2], [], [], [4, 5], [4, 5, 6], [0, 1, 2, 3, 4, 5, 6, 7]], fin := [(0, none), (1, none), (5, none), (26, some 8)], left := [] } (by kernel_rfl) haq58 hsq58 (perm_sel [0] (m := 1) rfl rfl) (by kernel_rfl) (by kernel_rfl) ?_ ?_
          · exact ⟨Plan.goal_run fun vs hf => ⟨wants_none rfl, OpT.conv (OpT.evs (ev' := evL [(0, va0)]) (opT_move (v := va0) rfl rfl) rfl [.tmp 0] rfl ⟨rfl, trivial⟩) rfl (fun _ h => Eq.trans h rfl) (fun _ => rfl)⟩, Plan.goal_run fun vs hf => ⟨wants_none rfl, OpT.conv (OpT.evs (ev' := evL [(5, .int .i64 s3)]) (opT_move (v := .int .i64 s3) rfl rfl) rfl [.tmp 5] rfl ⟨rfl, trivial⟩) rfl (fun _ h => Eq.trans h rfl) (fun _ => rfl)⟩, Plan.goal_run fun vs hf => ⟨wants_none rfl, OpT.conv (OpT.evs (ev' := evL [(18, va0), (19, .int .i64 s3)]) (opT_index_hd (xs := p0a) (i := s3) (n := 1) (Hd.of_rd ra0) Try.underlying34 ti3 rfl rfl rfl (getI_in e9)) rfl [.tmp 18, .tmp 19] rfl ⟨(hf 0 (mb rfl)), (hf 1 (mb rfl)), trivial⟩) rfl (fun _ h => Eq.trans h rfl) (fun _ => rfl)⟩, Plan.goal_run fun vs hf => ⟨wants_none rfl, OpT.conv (OpT.evs (ev' := evL [(20, pt va0 (s3.toNat * 1))]) (opT_load_el (S := rInt) (xs := p0a) (a := x9) (i := s3) (k := 1) (off := 0) (f := fun (x : Int) => x) ra0 e9 Fld.self ti3 rfl rfl rfl rfl rfl) rfl [.tmp 20] rfl ⟨(hf 2 (mb rfl)), trivial⟩) rfl (fun _ h => lds_one h) (fun _ => rfl)⟩, Plan.goal_run fun vs hf => ⟨wants_none rfl, OpT.conv (OpT.evs (ev' := evL [(1, va1)]) (opT_move (v := va1) rfl rfl) rfl [.tmp 1] rfl ⟨rfl, trivial⟩) rfl (fun _ h => Eq.trans h rfl) (fun _ => rfl)⟩, Plan.goal_run fun vs hf => ⟨wants_none rfl, OpT.conv (OpT.evs (ev' := evL [(5, .int .i64 s3)]) (opT_move (v := .int .i64 s3) rfl rfl) rfl [.tmp 5] rfl ⟨rfl, trivial⟩) rfl (fun _ h => Eq.trans h rfl) (fun _ => rfl)⟩, Plan.goal_run fun vs hf => ⟨wants_none rfl, OpT.conv (OpT.evs (ev' := evL [(22, va1), (23, .int .i64 s3)]) (opT_index_hd (xs := p1b) (i := s3) (n := 1) (Hd.of_rd ra1) Try.underlying34 ti3 rfl rfl rfl (getI_in e10)) rfl [.tmp 22, .tmp 23] rfl ⟨(hf 4 (mb rfl)), (hf 5 (mb rfl)), trivial⟩) rfl (fun _ h => Eq.trans h rfl) (fun _ => rfl)⟩, Plan.goal_run fun vs hf => ⟨wants_none rfl, OpT.conv (OpT.evs (ev' := evL [(24, pt va1 (s3.toNat * 1))]) (opT_load_el (S := rInt) (xs := p1b) (a := x10) (i := s3) (k := 1) (off := 0) (f := fun (x : Int) => x) ra1 e10 Fld.self ti3 rfl rfl rfl rfl rfl) rfl [.tmp 24] rfl ⟨(hf 6 (mb rfl)), trivial⟩) rfl (fun _ h => lds_one h) (fun _ => rfl)⟩, Plan.goal_run fun vs hf => ⟨wants_none rfl, OpT.conv (OpT.evs (ev' := evL [(21, .int .i64 x9), (25, .int .i64 x10)]) (opT_cmp (k := .i64) (m := x9) (n := x10) (c := decide (x9 < x10)) rfl rfl rfl rfl rfl) rfl [.tmp 21, .tmp 25] rfl ⟨(hf 3 (mb rfl)), (hf 7 (mb rfl)), trivial⟩) rfl (fun _ h => Eq.trans h rfl) (fun _ => rfl)⟩, trivial⟩
          intro vs aq59 wq59 hf haq59 hsq59
          clear haq58 hsq58
          replace haq59 := haq59.pick' (L' := [(0, va0), (1, va1), (5, .int .i64 s3), (26, .bool (decide (x9 < x10)))]) ⟨rfl, rfl, rfl, (congrArg some (show _ = _ from (hf 8 (Nat.le_of_ble_eq_true rfl)))), trivial⟩
          replace hsq59 : St I w0 wq59 [F] := hsq59
          clear hf vs
          refine nrm ?_
          rcases two (decide (x9 < x10)) with hb11 | hb11
          · replace hm := ifFe hb11 hm
            refine cnd_false (b := decide (x9 < x10)) haq59 rfl rfl hb11 ?_
            refine wp_skip ?_
            refine nrm ?_
            refine wp_seq ?_
            obtain ⟨x11, e11, hm⟩ := bind_some hm
            obtain ⟨x12, e12, hm⟩ := bind_some hm
            refine wp_draw (L := [(0, va0), (1, va1), (5, .int .i64 s3), (26, .bool (decide (x9 < x10)))]) (C := [F]) { ops := [⟨[], [], [], [0], fun | [xo0] => xo0 = va0 | _ => True, [(0, none)]⟩, ⟨[], [], [], [1], fun | [xo1] => xo1 = .int .i64 s3 | _ => True, [(5, none)]⟩, ⟨[], [], [], [2], fun | [xo2] => xo2 = pt va0 (s3.toNat * 1) | _ => True, [(27, some 0), (28, some 1)]⟩, ⟨[], [], [], [3], fun | [xo3] => xo3 = .int .i64 x11 | _ => True, [(29, some 2)]⟩, ⟨[], [], [], [4], fun | [xo4] => xo4 = va1 | _ => True, [(1, none)]⟩, ⟨[], [], [], [5], fun | [xo5] => xo5 = .int .i64 s3 | _ => True, [(5, none)]⟩, ⟨[], [], [], [6], fun | [xo6] => xo6 = pt va1 (s3.toNat * 1) | _ => True, [(31, some 4), (32, some 5)]⟩, ⟨[], [], [], [7], fun | [xo7] => xo7 = .int .i64 x12 | _ => True, [(33, some 6)]⟩, ⟨[], [], [], [8], fun | [xo8] => xo8 = .bool (decide (x11 > x12)) | _ => True, [(30, some 3), (34, some 7)]⟩], res := [], base := [], pre := [[], [], [0, 1], [0, 1, 2], [], [], [4, 5], [4, 5, 6], [0, 1, 2, 3, 4, 5, 6, 7]], fin := [(0, none), (1, none), (5, none), (35, some 8)], left := [] } (by kernel_rfl) haq59 hsq59 (perm_sel [0] (m := 1) rfl rfl) (by kernel_rfl) (by kernel_rfl) ?_ ?_
            · exact ⟨Plan.goal_run fun vs hf => ⟨wants_none rfl, OpT.conv (OpT.evs (ev' := evL [(0, va0)]) (opT_move (v := va0) rfl rfl) rfl [.tmp 0] rfl ⟨rfl, trivial⟩) rfl (fun _ h => Eq.trans h rfl) (fun _ => rfl)⟩, Plan.goal_run fun vs hf => ⟨wants_none rfl, OpT.conv (OpT.evs (ev' := evL [(5, .int .i64 s3)]) (opT_move (v := .int .i64 s3) rfl rfl) rfl [.tmp 5] rfl ⟨rfl, trivial⟩) rfl (fun _ h => Eq.trans h rfl) (fun _ => rfl)⟩, Plan.goal_run fun vs hf => ⟨wants_none rfl, OpT.conv (OpT.evs (ev' := evL [(27, va0), (28, .int .i64 s3)]) (opT_index_hd (xs := p0a) (i := s3) (n := 1) (Hd.of_rd ra0) Try.underlying34 ti3 rfl rfl rfl (getI_in e11)) rfl [.tmp 27, .tmp 28] rfl ⟨(hf 0 (mb rfl)), (hf 1 (mb rfl)), trivial⟩) rfl (fun _ h => Eq.trans h rfl) (fun _ => rfl)⟩, Plan.goal_run fun vs hf => ⟨wants_none rfl, OpT.conv (OpT.evs (ev' := evL [(29, pt va0 (s3.toNat * 1))]) (opT_load_el (S := rInt) (xs := p0a) (a := x11) (i := s3) (k := 1) (off := 0) (f := fun (x : Int) => x) ra0 e11 Fld.self ti3 rfl rfl rfl rfl rfl) rfl [.tmp 29] rfl ⟨(hf 2 (mb rfl)), trivial⟩) rfl (fun _ h => lds_one h) (fun _ => rfl)⟩, Plan.goal_run fun vs hf => ⟨wants_none rfl, OpT.conv (OpT.evs (ev' := evL [(1, va1)]) (opT_move (v := va1) rfl rfl) rfl [.tmp 1] rfl ⟨rfl, trivial⟩) rfl (fun _ h => Eq.trans h rfl) (fun _ => rfl)⟩, Plan.goal_run fun vs hf => ⟨wants_none rfl, OpT.conv (OpT.evs (ev' := evL [(5, .int .i64 s3)]) (opT_move (v := .int .i64 s3) rfl rfl) rfl [.tmp 5] rfl ⟨rfl, trivial⟩) rfl (fun _ h => Eq.trans h rfl) (fun _ => rfl)⟩, Plan.goal_run fun vs hf => ⟨wants_none rfl, OpT.conv (OpT.evs (ev' := evL [(31, va1), (32, .int .i64 s3)]) (opT_index_hd (xs := p1b) (i := s3) (n := 1) (Hd.of_rd ra1) Try.underlying34 ti3 rfl rfl rfl (getI_in e12)) rfl [.tmp 31, .tmp 32] rfl ⟨(hf 4 (mb rfl)), (hf 5 (mb rfl)), trivial⟩) rfl (fun _ h => Eq.trans h rfl) (fun _ => rfl)⟩, Plan.goal_run fun vs hf => ⟨wants_none rfl, OpT.conv (OpT.evs (ev' := evL [(33, pt va1 (s3.toNat * 1))]) (opT_load_el (S := rInt) (xs := p1b) (a := x12) (i := s3) (k := 1) (off := 0) (f := fun (x : Int) => x) ra1 e12 Fld.self ti3 rfl rfl rfl rfl rfl) rfl [.tmp 33] rfl ⟨(hf 6 (mb rfl)), trivial⟩) rfl (fun _ h => lds_one h) (fun _ => rfl)⟩, Plan.goal_run fun vs hf => ⟨wants_none rfl, OpT.conv (OpT.evs (ev' := evL [(30, .int .i64 x11), (34, .int .i64 x12)]) (opT_cmp (k := .i64) (m := x11) (n := x12) (c := decide (x11 > x12)) rfl rfl rfl rfl rfl) rfl [.tmp 30, .tmp 34] rfl ⟨(hf 3 (mb rfl)), (hf 7 (mb rfl)), trivial⟩) rfl (fun _ h => Eq.trans h rfl) (fun _ => rfl)⟩, trivial⟩
            intro vs aq60 wq60 hf haq60 hsq60
            clear haq59 hsq59
            replace haq60 := haq60.pick' (L' := [(0, va0), (1, va1), (5, .int .i64 s3), (35, .bool (decide (x11 > x12)))]) ⟨rfl, rfl, rfl, (congrArg some (show _ = _ from (hf 8 (Nat.le_of_ble_eq_true rfl)))), trivial⟩
            replace hsq60 : St I w0 wq60 [F] := hsq60
            clear hf vs
            refine nrm ?_
            rcases two (decide (x11 > x12)) with hb12 | hb12
            · replace hm := ifFe hb12 hm
              refine cnd_false (b := decide (x11 > x12)) haq60 rfl rfl hb12 ?_
              refine wp_skip ?_
              refine nrmB ?_
              refine nrm ?_
              refine wp_region_lit ?_
              refine seq_op0 haq60 hsq60 (opT_move (v := .int .i64 s3) rfl rfl) rfl rfl ?_
              rintro u aq61 wq61 hf haq61 hsq61
              obtain rfl := Eq.symm hf
              clear haq60 hsq60 aq60 wq60
              refine seq_op0 haq61 hsq61 (opT_add (m := s3) (n := 1) rfl rfl rfl) rfl rfl ?_
              rintro u aq62 wq62 hf haq62 hsq62
              obtain rfl := Eq.symm hf
              clear haq61 hsq61 aq61 wq61
              refine seq_op0 haq62 hsq62 (opT_assign (v := .int .i64 (IntKind.i64.wrap (s3 + 1))) rfl rfl) rfl rfl ?_
              rintro u aq63 wq63 hf haq63 hsq63
              obtain rfl := Eq.symm hf
              clear haq62 hsq62 aq62 wq62
              refine wpList_nil ?_
              replace haq63 := haq63.pick' (L' := [(0, va0), (1, va1), (5, .int .i64 (IntKind.i64.wrap (s3 + 1)))]) ⟨rfl, rfl, rfl, trivial⟩
              refine nrm ?_
              exact ⟨_, (Option.some.inj hm).symm, ⟨haq63.pick' ⟨rfl, rfl, rfl, trivial⟩, St.sel hsq63 1 [0] rfl rfl⟩⟩
            · replace hm := ifTe hb12 hm
              refine cnd_true (b := decide (x11 > x12)) haq60 rfl rfl hb12 ?_
              refine wp_seq ?_
              refine wp_region_lit ?_
              refine seq_op0 haq60 hsq60 (opT_assign (v := .int .i64 1) rfl rfl) rfl rfl ?_
              rintro u aq64 wq64 hf haq64 hsq64
              obtain rfl := Eq.symm hf
              clear haq60 hsq60 aq60 wq60
              refine wpList_nil ?_
              replace haq64 := haq64.pick' (L' := [(4, .int .i64 1)]) ⟨rfl, trivial⟩
              refine nrm ?_
              refine wp_ret ?_
              refine blkR ?_
              refine thenR ?_
              refine thenR ?_
              refine blkR ?_
              refine thenR ?_
              refine thenR ?_
              replace hm := loopRet hm hf1 hc1
              obtain rfl := Option.some.inj hm
              exact ret_1 haq64 rfl (res_tmp haq64 rfl) ⟨_, rfl, rfl, _, Hp.le.rfl, St.sel (hsq64) 1 [0] rfl rfl⟩
          · replace hm := ifTe hb11 hm
            refine cnd_true (b := decide (x9 < x10)) haq59 rfl rfl hb11 ?_
            refine wp_seq ?_
            refine wp_region_lit ?_
            refine seq_op0 haq59 hsq59 (opT_assign (v := .int .i64 (-1)) rfl rfl) rfl rfl ?_
            rintro u aq65 wq65 hf haq65 hsq65
            obtain rfl := Eq.symm hf
            clear haq59 hsq59 aq59 wq59
            refine wpList_nil ?_
            replace haq65 := haq65.pick' (L' := [(4, .int .i64 (-1))]) ⟨rfl, trivial⟩
            refine nrm ?_
            refine wp_ret ?_
            refine thenR ?_
            refine blkR ?_
            refine thenR ?_
            refine thenR ?_
            refine blkR ?_
            refine thenR ?_
            refine thenR ?_
            replace hm := loopRet hm hf1 hc1
            obtain rfl := Option.some.inj hm
            exact ret_1 haq65 rfl (res_tmp haq65 rfl) ⟨_, rfl, rfl, _, Hp.le.rfl, St.sel (hsq65) 1 [0] rfl rfl⟩
  · rintro aq66 wq66 ⟨s4, ho1, haq66, hsq66⟩
    replace hm := loopOut ho1 hc1
    clear ho1 hc1 hl1
    refine nrm ?_
    refine wp_seq ?_
    refine wp_seq ?_
    refine wp_region_lit ?_
    refine seq_op0 haq66 hsq66 (opT_move (v := va0) rfl rfl) rfl rfl ?_
    rintro u aq67 wq67 hf haq67 hsq67
    obtain rfl := Eq.symm hf
    clear haq66 hsq66 aq66 wq66
    refine seq_op0 haq67 hsq67 (opT_len_hd (v := va0) (n := p0a.length) (Hd.of_rd ra0) Try.underlying34 rfl rfl) rfl rfl ?_
    rintro u aq68 wq68 hf haq68 hsq68
    obtain rfl := Eq.symm hf
    clear haq67 hsq67 aq67 wq67
    refine seq_op0 haq68 hsq68 (opT_move (v := va1) rfl rfl) rfl rfl ?_
    rintro u aq69 wq69 hf haq69 hsq69
    obtain rfl := Eq.symm hf
    clear haq68 hsq68 aq68 wq68
    refine seq_op0 haq69 hsq69 (opT_len_hd (v := va1) (n := p1b.length) (Hd.of_rd ra1) Try.underlying34 rfl rfl) rfl rfl ?_
    rintro u aq70 wq70 hf haq70 hsq70
    obtain rfl := Eq.symm hf
    clear haq69 hsq69 aq69 wq69
    refine seq_op0 haq70 hsq70 (opT_cmp (k := .i64) (m := (p0a.length : Int)) (n := (p1b.length : Int)) (c := decide ((p0a.length : Int) < (p1b.length : Int))) rfl rfl rfl rfl rfl) rfl rfl ?_
    rintro u aq71 wq71 hf haq71 hsq71
    obtain rfl := Eq.symm hf
    clear haq70 hsq70 aq70 wq70
    refine wpList_nil ?_
    replace haq71 := haq71.pick' (L' := [(0, va0), (1, va1), (40, .bool (decide ((p0a.length : Int) < (p1b.length : Int))))]) ⟨rfl, rfl, rfl, trivial⟩
    refine nrm ?_
    rcases two (decide ((p0a.length : Int) < (p1b.length : Int))) with hb13 | hb13
    · replace hm := ifFe hb13 hm
      refine cnd_false (b := decide ((p0a.length : Int) < (p1b.length : Int))) haq71 rfl rfl hb13 ?_
      refine wp_skip ?_
      refine nrm ?_
      refine wp_seq ?_
      refine wp_seq ?_
      refine wp_region_lit ?_
      refine seq_op0 haq71 hsq71 (opT_move (v := va0) rfl rfl) rfl rfl ?_
      rintro u aq72 wq72 hf haq72 hsq72
      obtain rfl := Eq.symm hf
      clear haq71 hsq71 aq71 wq71
      refine seq_op0 haq72 hsq72 (opT_len_hd (v := va0) (n := p0a.length) (Hd.of_rd ra0) Try.underlying34 rfl rfl) rfl rfl ?_
      rintro u aq73 wq73 hf haq73 hsq73
      obtain rfl := Eq.symm hf
      clear haq72 hsq72 aq72 wq72
      refine seq_op0 haq73 hsq73 (opT_move (v := va1) rfl rfl) rfl rfl ?_
      rintro u aq74 wq74 hf haq74 hsq74
      obtain rfl := Eq.symm hf
      clear haq73 hsq73 aq73 wq73
      refine seq_op0 haq74 hsq74 (opT_len_hd (v := va1) (n := p1b.length) (Hd.of_rd ra1) Try.underlying34 rfl rfl) rfl rfl ?_
      rintro u aq75 wq75 hf haq75 hsq75
      obtain rfl := Eq.symm hf
      clear haq74 hsq74 aq74 wq74
      refine seq_op0 haq75 hsq75 (opT_cmp (k := .i64) (m := (p0a.length : Int)) (n := (p1b.length : Int)) (c := decide ((p0a.length : Int) > (p1b.length : Int))) rfl rfl rfl rfl rfl) rfl rfl ?_
      rintro u aq76 wq76 hf haq76 hsq76
      obtain rfl := Eq.symm hf
      clear haq75 hsq75 aq75 wq75
      refine wpList_nil ?_
      replace haq76 := haq76.pick' (L' := [(45, .bool (decide ((p0a.length : Int) > (p1b.length : Int))))]) ⟨rfl, trivial⟩
      refine nrm ?_
      rcases two (decide ((p0a.length : Int) > (p1b.length : Int))) with hb14 | hb14
      · replace hm := ifFe hb14 hm
        refine cnd_false (b := decide ((p0a.length : Int) > (p1b.length : Int))) haq76 rfl rfl hb14 ?_
        refine wp_skip ?_
        refine nrm ?_
        refine wp_seq ?_
        refine wp_region_lit ?_
        refine seq_op0 haq76 hsq76 (opT_assign (v := .int .i64 0) rfl rfl) rfl rfl ?_
        rintro u aq77 wq77 hf haq77 hsq77
        obtain rfl := Eq.symm hf
        clear haq76 hsq76 aq76 wq76
        refine wpList_nil ?_
        replace haq77 := haq77.pick' (L' := [(4, .int .i64 0)]) ⟨rfl, trivial⟩
        refine nrm ?_
        refine wp_ret ?_
        obtain rfl := Option.some.inj hm
        exact ret_1 haq77 rfl (res_tmp haq77 rfl) ⟨_, rfl, rfl, _, Hp.le.rfl, St.sel (hsq77) 1 [0] rfl rfl⟩
      · replace hm := ifTe hb14 hm
        refine cnd_true (b := decide ((p0a.length : Int) > (p1b.length : Int))) haq76 rfl rfl hb14 ?_
        refine wp_seq ?_
        refine wp_region_lit ?_
        refine seq_op0 haq76 hsq76 (opT_assign (v := .int .i64 1) rfl rfl) rfl rfl ?_
        rintro u aq78 wq78 hf haq78 hsq78
        obtain rfl := Eq.symm hf
        clear haq76 hsq76 aq76 wq76
        refine wpList_nil ?_
        replace haq78 := haq78.pick' (L' := [(4, .int .i64 1)]) ⟨rfl, trivial⟩
        refine nrm ?_
        refine wp_ret ?_
        refine thenR ?_
        obtain rfl := Option.some.inj hm
        exact ret_1 haq78 rfl (res_tmp haq78 rfl) ⟨_, rfl, rfl, _, Hp.le.rfl, St.sel (hsq78) 1 [0] rfl rfl⟩
    · replace hm := ifTe hb13 hm
      refine cnd_true (b := decide ((p0a.length : Int) < (p1b.length : Int))) haq71 rfl rfl hb13 ?_
      refine wp_seq ?_
      refine wp_region_lit ?_
      refine seq_op0 haq71 hsq71 (opT_assign (v := .int .i64 (-1)) rfl rfl) rfl rfl ?_
      rintro u aq79 wq79 hf haq79 hsq79
      obtain rfl := Eq.symm hf
      clear haq71 hsq71 aq71 wq71
      refine wpList_nil ?_
      replace haq79 := haq79.pick' (L' := [(4, .int .i64 (-1))]) ⟨rfl, trivial⟩
      refine nrm ?_
      refine wp_ret ?_
      refine thenR ?_
      obtain rfl := Option.some.inj hm
      exact ret_1 haq79 rfl (res_tmp haq79 rfl) ⟨_, rfl, rfl, _, Hp.le.rfl, St.sel (hsq79) 1 [0] rfl rfl⟩
set_option maxHeartbeats 8000000 in
theorem c_g_slices_Equal_S_int_int (p0s1 : List Int) (p1s2 : List Int) (r : Bool) (hm : m_g_slices_Equal_S_int_int p0s1 p1s2 = some r) {I : Hp} {w0 : World} (va0 : Value) (va1 : Value) (ra0 : (rSlice 3 rInt).rd I [va0] p0s1) (ra1 : (rSlice 3 rInt).rd I [va1] p1s2) : Con Try.prog 109 #[va0, va1] I w0 [] (fun v => v = .bool r) (fun v => []) := by
  refine con_of_wp (n := 26) [(0, va0), (1, va1)] Try.func109 rfl rfl (Nat.le_of_ble_eq_true rfl) (args_all ⟨rfl, rfl, trivial⟩) (fun F w a ha hs => ?_) (fun v => trivial)
  unfold m_g_slices_Equal_S_int_int at hm
  refine wp_seq ?_
  refine wp_region_lit ?_
  refine seq_op0 ha hs (opT_assign (v := .bool false) rfl rfl) rfl rfl ?_
  rintro u aq1 wq1 hf haq1 hsq1
  obtain rfl := Eq.symm hf
  clear ha hs a w
  refine wpList_nil ?_
  replace haq1 := haq1.pick' (L' := [(0, va0), (1, va1)]) ⟨rfl, rfl, trivial⟩
  refine nrm ?_
  refine wp_seq ?_
  refine wp_seq ?_
  refine wp_region_lit ?_
  refine seq_op0 haq1 hsq1 (opT_move (v := va0) rfl rfl) rfl rfl ?_
  rintro u aq2 wq2 hf haq2 hsq2
  obtain rfl := Eq.symm hf
  clear haq1 hsq1 aq1 wq1
  refine seq_op0 haq2 hsq2 (opT_len_hd (v := va0) (n := p0s1.length) (Hd.of_rd ra0) Try.underlying34 rfl rfl) rfl rfl ?_
  rintro u aq3 wq3 hf haq3 hsq3
  obtain rfl := Eq.symm hf
  clear haq2 hsq2 aq2 wq2
  refine seq_op0 haq3 hsq3 (opT_move (v := va1) rfl rfl) rfl rfl ?_
  rintro u aq4 wq4 hf haq4 hsq4
  obtain rfl := Eq.symm hf
  clear haq3 hsq3 aq3 wq3
  refine seq_op0 haq4 hsq4 (opT_len_hd (v := va1) (n := p1s2.length) (Hd.of_rd ra1) Try.underlying34 rfl rfl) rfl rfl ?_
  rintro u aq5 wq5 hf haq5 hsq5
  obtain rfl := Eq.symm hf
  clear haq4 hsq4 aq4 wq4
  refine seq_op0 haq5 hsq5 (opT_cmp (k := .i64) (m := (p0s1.length : Int)) (n := (p1s2.length : Int)) (c := (p0s1.length : Int) != (p1s2.length : Int)) rfl rfl rfl rfl rfl) rfl rfl ?_
  rintro u aq6 wq6 hf haq6 hsq6
  obtain rfl := Eq.symm hf
  clear haq5 hsq5 aq5 wq5
  refine wpList_nil ?_
  replace haq6 := haq6.pick' (L' := [(0, va0), (1, va1), (10, .bool ((p0s1.length : Int) != (p1s2.length : Int)))]) ⟨rfl, rfl, rfl, trivial⟩
  refine nrm ?_
  rcases two ((p0s1.length : Int) != (p1s2.length : Int)) with hb1 | hb1
  · replace hm := ifFe hb1 hm
    refine cnd_false (b := (p0s1.length : Int) != (p1s2.length : Int)) haq6 rfl rfl hb1 ?_
    refine wp_skip ?_
    refine nrm ?_
    refine wp_seq ?_
    refine wp_seq ?_
    refine wp_region_lit ?_
    refine seq_op0 haq6 hsq6 (opT_move (v := va0) rfl rfl) rfl rfl ?_
    rintro u aq7 wq7 hf haq7 hsq7
    obtain rfl := Eq.symm hf
    clear haq6 hsq6 aq6 wq6
    refine seq_op0 haq7 hsq7 (opT_len_hd (v := va0) (n := p0s1.length) (Hd.of_rd ra0) Try.underlying34 rfl rfl) rfl rfl ?_
    rintro u aq8 wq8 hf haq8 hsq8
    obtain rfl := Eq.symm hf
    clear haq7 hsq7 aq7 wq7
    refine seq_op0 haq8 hsq8 (opT_move (v := .int .i64 0) rfl rfl) rfl rfl ?_
    rintro u aq9 wq9 hf haq9 hsq9
    obtain rfl := Eq.symm hf
    clear haq8 hsq8 aq8 wq8
    refine wpList_nil ?_
    replace haq9 := haq9.pick' (L' := [(0, va0), (1, va1), (12, .int .i64 (p0s1.length : Int)), (13, .int .i64 0)]) ⟨rfl, rfl, rfl, rfl, trivial⟩
    refine nrm ?_
    obtain ⟨o1, hl1, hc1⟩ := bindL_some hm
    refine wp_cut (fun a w => ∃ s4 : Int, o1 = .brk s4 ∧ Agr 26 a [] ∧ St I w0 w [F]) ?_ ?_
    · refine wp_block (wp_loopM (R := Bool) (S := Int) (fun s3 a w => Agr 26 a [(0, va0), (1, va1), (12, .int .i64 (p0s1.length : Int)), (13, .int .i64 s3)] ∧ St I w0 w [F]) hl1 ?_ ?_)
      · exact ⟨haq9.pick' ⟨rfl, rfl, rfl, rfl, trivial⟩, St.sel hsq9 1 [0] rfl rfl⟩
      · rintro s3 o2 hm hf1 aq22 wq22 ⟨haq22, hsq22⟩
        unfold m_g_slices_Equal_S_int_int_l0 at hm
        refine wp_seq ?_
        refine wp_region_lit ?_
        refine seq_op0 haq22 hsq22 (opT_cmp (k := .i64) (m := s3) (n := (p0s1.length : Int)) (c := decide (s3 < (p0s1.length : Int))) rfl rfl rfl rfl rfl) rfl rfl ?_
        rintro u aq23 wq23 hf haq23 hsq23
        obtain rfl := Eq.symm hf
        clear haq22 hsq22 aq22 wq22
        refine wpList_nil ?_
        replace haq23 := haq23.pick' (L' := [(0, va0), (1, va1), (12, .int .i64 (p0s1.length : Int)), (13, .int .i64 s3), (14, .bool (decide (s3 < (p0s1.length : Int))))]) ⟨rfl, rfl, rfl, rfl, rfl, trivial⟩
        refine nrm ?_
        refine wp_seq ?_
        rcases two (decide (s3 < (p0s1.length : Int))) with hb6 | hb6
        · replace hm := ifFe hb6 hm
          refine cnd_false (b := decide (s3 < (p0s1.length : Int))) haq23 rfl rfl hb6 ?_
          refine wp_exit ?_
          refine thenX ?_
          refine thenX ?_
          refine ex_in ?_
          refine nrm ?_
          exact ⟨_, loopBrk hm hf1, ⟨haq23.pick' trivial, St.sel hsq23 1 [0] rfl rfl⟩⟩
        · replace hm := ifTe hb6 hm
          refine cnd_true (b := decide (s3 < (p0s1.length : Int))) haq23 rfl rfl hb6 ?_
          refine wp_skip ?_
          refine nrm ?_
          refine wp_seq ?_
          refine wp_block ?_
          refine wp_seq ?_
          refine wp_region_lit ?_
          refine seq_op0 haq23 hsq23 (opT_move (v := .int .i64 s3) rfl rfl) rfl rfl ?_
          rintro u aq24 wq24 hf haq24 hsq24
          obtain rfl := Eq.symm hf
          clear haq23 hsq23 aq23 wq23
          refine seq_op0 haq24 hsq24 (opT_assign (v := .int .i64 s3) rfl rfl) rfl rfl ?_
          rintro u aq25 wq25 hf haq25 hsq25
          obtain rfl := Eq.symm hf
          clear haq24 hsq24 aq24 wq24
          refine wpList_nil ?_
          replace haq25 := haq25.pick' (L' := [(0, va0), (1, va1), (5, .int .i64 s3), (12, .int .i64 (p0s1.length : Int)), (13, .int .i64 s3)]) ⟨rfl, rfl, rfl, rfl, rfl, trivial⟩
          refine nrm ?_
          refine wp_seq ?_
          obtain ⟨x5, e5, hm⟩ := bind_some hm
          obtain ⟨x6, e6, hm⟩ := bind_some hm
          refine wp_draw (L := [(0, va0), (1, va1), (5, .int .i64 s3), (12, .int .i64 (p0s1.length : Int)), (13, .int .i64 s3)]) (C := [F]) { ops := [⟨[], [], [], [0], fun | [xo0] => xo0 = va0 | _ => True, [(0, none)]⟩, ⟨[], [], [], [1], fun | [xo1] => xo1 = .int .i64 s3 | _ => True, [(5, none)]⟩, ⟨[], [], [], [2], fun | [xo2] => xo2 = pt va0 (s3.toNat * 1) | _ => True, [(16, some 0), (17, some 1)]⟩, ⟨[], [], [], [3], fun | [xo3] => xo3 = .int .i64 x5 | _ => True, [(18, some 2)]⟩, ⟨[], [], [], [4], fun | [xo4] => xo4 = va1 | _ => True, [(1, none)]⟩, ⟨[], [], [], [5], fun | [xo5] => xo5 = .int .i64 s3 | _ => True, [(5, none)]⟩, ⟨[], [], [], [6], fun | [xo6] => xo6 = pt va1 (s3.toNat * 1) | _ => True, [(20, some 4), (21, some 5)]⟩, ⟨[], [], [], [7], fun | [xo7] => xo7 = .int .i64 x6 | _ => True, [(22, some 6)]⟩, ⟨[], [], [], [8], fun | [xo8] => xo8 = .bool (x5 != x6) | _ => True, [(19, some 3), (23, some 7)]⟩], res := [], base := [], pre := [[], [], [0, 1], [0, 1, 2], [], [], [4, 5], [4, 5, 6], [0, 1, 2, 3, 4, 5, 6, 7]], fin := [(0, none), (1, none), (12, none), (13, none), (24, some 8)], left := [] } (by kernel_rfl) haq25 hsq25 (perm_sel [0] (m := 1) rfl rfl) (by kernel_rfl) (by kernel_rfl) ?_ ?_
          · exact ⟨Plan.goal_run fun vs hf => ⟨wants_none rfl, OpT.conv (OpT.evs (ev' := evL [(0, va0)]) (opT_move (v := va0) rfl rfl) rfl [.tmp 0] rfl ⟨rfl, trivial⟩) rfl (fun _ h => Eq.trans h rfl) (fun _ => rfl)⟩, Plan.goal_run fun vs hf => ⟨wants_none rfl, OpT.conv (OpT.evs (ev' := evL [(5, .int .i64 s3)]) (opT_move (v := .int .i64 s3) rfl rfl) rfl [.tmp 5] rfl ⟨rfl, trivial⟩) rfl (fun _ h => Eq.trans h rfl) (fun _ => rfl)⟩, Plan.goal_run fun vs hf => ⟨wants_none rfl, OpT.conv (OpT.evs (ev' := evL [(16, va0), (17, .int .i64 s3)]) (opT_index_hd (xs := p0s1) (i := s3) (n := 1) (Hd.of_rd ra0) Try.underlying34 ti3 rfl rfl rfl (getI_in e5)) rfl [.tmp 16, .tmp 17] rfl ⟨(hf 0 (mb rfl)), (hf 1 (mb rfl)), trivial⟩) rfl (fun _ h => Eq.trans h rfl) (fun _ => rfl)⟩, Plan.goal_run fun vs hf => ⟨wants_none rfl, OpT.conv (OpT.evs (ev' := evL [(18, pt va0 (s3.toNat * 1))]) (opT_load_el (S := rInt) (xs := p0s1) (a := x5) (i := s3) (k := 1) (off := 0) (f := fun (x : Int) => x) ra0 e5 Fld.self ti3 rfl rfl rfl rfl rfl) rfl [.tmp 18] rfl ⟨(hf 2 (mb rfl)), trivial⟩) rfl (fun _ h => lds_one h) (fun _ => rfl)⟩, Plan.goal_run fun vs hf => ⟨wants_none rfl, OpT.conv (OpT.evs (ev' := evL [(1, va1)]) (opT_move (v := va1) rfl rfl) rfl [.tmp 1] rfl ⟨rfl, trivial⟩) rfl (fun _ h => Eq.trans h rfl) (fun _ => rfl)⟩, Plan.goal_run fun vs hf => ⟨wants_none rfl, OpT.conv (OpT.evs (ev' := evL [(5, .int .i64 s3)]) (opT_move (v := .int .i64 s3) rfl rfl) rfl [.tmp 5] rfl ⟨rfl, trivial⟩) rfl (fun _ h => Eq.trans h rfl) (fun _ => rfl)⟩, Plan.goal_run fun vs hf => ⟨wants_none rfl, OpT.conv (OpT.evs (ev' := evL [(20, va1), (21, .int .i64 s3)]) (opT_index_hd (xs := p1s2) (i := s3) (n := 1) (Hd.of_rd ra1) Try.underlying34 ti3 rfl rfl rfl (getI_in e6)) rfl [.tmp 20, .tmp 21] rfl ⟨(hf 4 (mb rfl)), (hf 5 (mb rfl)), trivial⟩) rfl (fun _ h => Eq.trans h rfl) (fun _ => rfl)⟩, Plan.goal_run fun vs hf => ⟨wants_none rfl, OpT.conv (OpT.evs (ev' := evL [(22, pt va1 (s3.toNat * 1))]) (opT_load_el (S := rInt) (xs := p1s2) (a := x6) (i := s3) (k := 1) (off := 0) (f := fun (x : Int) => x) ra1 e6 Fld.self ti3 rfl rfl rfl rfl rfl) rfl [.tmp 22] rfl ⟨(hf 6 (mb rfl)), trivial⟩) rfl (fun _ h => lds_one h) (fun _ => rfl)⟩, Plan.goal_run fun vs hf => ⟨wants_none rfl, OpT.conv (OpT.evs (ev' := evL [(19, .int .i64 x5), (23, .int .i64 x6)]) (opT_cmp (k := .i64) (m := x5) (n := x6) (c := x5 != x6) rfl rfl rfl rfl rfl) rfl [.tmp 19, .tmp 23] rfl ⟨(hf 3 (mb rfl)), (hf 7 (mb rfl)), trivial⟩) rfl (fun _ h => Eq.trans h rfl) (fun _ => rfl)⟩, trivial⟩
          intro vs aq26 wq26 hf haq26 hsq26
          clear haq25 hsq25
          replace haq26 := haq26.pick' (L' := [(0, va0), (1, va1), (12, .int .i64 (p0s1.length : Int)), (13, .int .i64 s3), (24, .bool (x5 != x6))]) ⟨rfl, rfl, rfl, rfl, (congrArg some (show _ = _ from (hf 8 (Nat.le_of_ble_eq_true rfl)))), trivial⟩
          replace hsq26 : St I w0 wq26 [F] := hsq26
          clear hf vs
          refine nrm ?_
          rcases two (x5 != x6) with hb7 | hb7
          · replace hm := ifFe hb7 hm
            refine cnd_false (b := x5 != x6) haq26 rfl rfl hb7 ?_
            refine wp_skip ?_
            refine nrmB ?_
            refine nrm ?_
            refine wp_region_lit ?_
            refine seq_op0 haq26 hsq26 (opT_add (m := s3) (n := 1) rfl rfl rfl) rfl rfl ?_
            rintro u aq27 wq27 hf haq27 hsq27
            obtain rfl := Eq.symm hf
            clear haq26 hsq26 aq26 wq26
            refine seq_op0 haq27 hsq27 (opT_move (v := .int .i64 (IntKind.i64.wrap (s3 + 1))) rfl rfl) rfl rfl ?_
            rintro u aq28 wq28 hf haq28 hsq28
            obtain rfl := Eq.symm hf
            clear haq27 hsq27 aq27 wq27
            refine wpList_nil ?_
            replace haq28 := haq28.pick' (L' := [(0, va0), (1, va1), (12, .int .i64 (p0s1.length : Int)), (13, .int .i64 (IntKind.i64.wrap (s3 + 1)))]) ⟨rfl, rfl, rfl, rfl, trivial⟩
            refine nrm ?_
            exact ⟨_, (Option.some.inj hm).symm, ⟨haq28.pick' ⟨rfl, rfl, rfl, rfl, trivial⟩, St.sel hsq28 1 [0] rfl rfl⟩⟩
          · replace hm := ifTe hb7 hm
            refine cnd_true (b := x5 != x6) haq26 rfl rfl hb7 ?_
            refine wp_seq ?_
            refine wp_region_lit ?_
            refine seq_op0 haq26 hsq26 (opT_assign (v := .bool false) rfl rfl) rfl rfl ?_
            rintro u aq29 wq29 hf haq29 hsq29
            obtain rfl := Eq.symm hf
            clear haq26 hsq26 aq26 wq26
            refine wpList_nil ?_
            replace haq29 := haq29.pick' (L' := [(4, .bool false)]) ⟨rfl, trivial⟩
            refine nrm ?_
            refine wp_ret ?_
            refine blkR ?_
            refine thenR ?_
            refine thenR ?_
            refine blkR ?_
            refine thenR ?_
            refine thenR ?_
            replace hm := loopRet hm hf1 hc1
            obtain rfl := Option.some.inj hm
            exact ret_1 haq29 rfl (res_tmp haq29 rfl) ⟨_, rfl, rfl, _, Hp.le.rfl, St.sel (hsq29) 1 [0] rfl rfl⟩
    · rintro aq30 wq30 ⟨s4, ho1, haq30, hsq30⟩
      replace hm := loopOut ho1 hc1
      clear ho1 hc1 hl1
      refine nrm ?_
      refine wp_seq ?_
      refine wp_region_lit ?_
      refine seq_op0 haq30 hsq30 (opT_assign (v := .bool true) rfl rfl) rfl rfl ?_
      rintro u aq31 wq31 hf haq31 hsq31
      obtain rfl := Eq.symm hf
      clear haq30 hsq30 aq30 wq30
      refine wpList_nil ?_
      replace haq31 := haq31.pick' (L' := [(4, .bool true)]) ⟨rfl, trivial⟩
      refine nrm ?_
      refine wp_ret ?_
      obtain rfl := Option.some.inj hm
      exact ret_1 haq31 rfl (res_tmp haq31 rfl) ⟨_, rfl, rfl, _, Hp.le.rfl, St.sel (hsq31) 1 [0] rfl rfl⟩
  · replace hm := ifTe hb1 hm
    refine cnd_true (b := (p0s1.length : Int) != (p1s2.length : Int)) haq6 rfl rfl hb1 ?_
    refine wp_seq ?_
    refine wp_region_lit ?_
    refine seq_op0 haq6 hsq6 (opT_assign (v := .bool false) rfl rfl) rfl rfl ?_
    rintro u aq32 wq32 hf haq32 hsq32
    obtain rfl := Eq.symm hf
    clear haq6 hsq6 aq6 wq6
    refine wpList_nil ?_
    replace haq32 := haq32.pick' (L' := [(4, .bool false)]) ⟨rfl, trivial⟩
    refine nrm ?_
    refine wp_ret ?_
    refine thenR ?_
    obtain rfl := Option.some.inj hm
    exact ret_1 haq32 rfl (res_tmp haq32 rfl) ⟨_, rfl, rfl, _, Hp.le.rfl, St.sel (hsq32) 1 [0] rfl rfl⟩
set_option maxHeartbeats 8000000 in
theorem c_w_eqIntS (p0a : List Int) (p1b : List Int) (r : Bool) (hm : m_w_eqIntS p0a p1b = some r) {I : Hp} {w0 : World} (va0 : Value) (va1 : Value) (ra0 : (rSlice 3 rInt).rd I [va0] p0a) (ra1 : (rSlice 3 rInt).rd I [va1] p1b) : Con Try.prog 69 #[va0, va1] I w0 [] (fun v => v = .bool r) (fun v => []) := by
  refine con_of_wp (n := 26) [(0, va0), (1, va1)] Try.func69 rfl rfl (Nat.le_of_ble_eq_true rfl) (args_all ⟨rfl, rfl, trivial⟩) (fun F w a ha hs => ?_) (fun v => trivial)
  unfold m_w_eqIntS at hm
  refine wp_seq ?_
  refine wp_region_lit ?_
  refine seq_op0 ha hs (opT_assign (v := .bool false) rfl rfl) rfl rfl ?_
  rintro u aq1 wq1 hf haq1 hsq1
  obtain rfl := Eq.symm hf
  clear ha hs a w
  refine wpList_nil ?_
  replace haq1 := haq1.pick' (L' := [(0, va0), (1, va1)]) ⟨rfl, rfl, trivial⟩
  refine nrm ?_
  refine wp_seq ?_
  refine wp_seq ?_
  refine wp_region_lit ?_
  refine seq_op0 haq1 hsq1 (opT_move (v := va0) rfl rfl) rfl rfl ?_
  rintro u aq2 wq2 hf haq2 hsq2
  obtain rfl := Eq.symm hf
  clear haq1 hsq1 aq1 wq1
  refine seq_op0 haq2 hsq2 (opT_len_hd (v := va0) (n := p0a.length) (Hd.of_rd ra0) Try.underlying34 rfl rfl) rfl rfl ?_
  rintro u aq3 wq3 hf haq3 hsq3
  obtain rfl := Eq.symm hf
  clear haq2 hsq2 aq2 wq2
  refine seq_op0 haq3 hsq3 (opT_move (v := va1) rfl rfl) rfl rfl ?_
  rintro u aq4 wq4 hf haq4 hsq4
  obtain rfl := Eq.symm hf
  clear haq3 hsq3 aq3 wq3
  refine seq_op0 haq4 hsq4 (opT_len_hd (v := va1) (n := p1b.length) (Hd.of_rd ra1) Try.underlying34 rfl rfl) rfl rfl ?_
  rintro u aq5 wq5 hf haq5 hsq5
  obtain rfl := Eq.symm hf
  clear haq4 hsq4 aq4 wq4
  refine seq_op0 haq5 hsq5 (opT_cmp (k := .i64) (m := (p0a.length : Int)) (n := (p1b.length : Int)) (c := (p0a.length : Int) != (p1b.length : Int)) rfl rfl rfl rfl rfl) rfl rfl ?_
  rintro u aq6 wq6 hf haq6 hsq6
  obtain rfl := Eq.symm hf
  clear haq5 hsq5 aq5 wq5
  refine wpList_nil ?_
  replace haq6 := haq6.pick' (L' := [(0, va0), (1, va1), (10, .bool ((p0a.length : Int) != (p1b.length : Int)))]) ⟨rfl, rfl, rfl, trivial⟩
  refine nrm ?_
  rcases two ((p0a.length : Int) != (p1b.length : Int)) with hb1 | hb1
  · replace hm := ifFe hb1 hm
    refine cnd_false (b := (p0a.length : Int) != (p1b.length : Int)) haq6 rfl rfl hb1 ?_
    refine wp_skip ?_
    refine nrm ?_
    refine wp_seq ?_
    refine wp_seq ?_
    refine wp_region_lit ?_
    refine seq_op0 haq6 hsq6 (opT_assign (v := .int .i64 0) rfl rfl) rfl rfl ?_
    rintro u aq7 wq7 hf haq7 hsq7
    obtain rfl := Eq.symm hf
    clear haq6 hsq6 aq6 wq6
    refine wpList_nil ?_
    replace haq7 := haq7.pick' (L' := [(0, va0), (1, va1), (5, .int .i64 0)]) ⟨rfl, rfl, rfl, trivial⟩
    refine nrm ?_
    obtain ⟨o1, hl1, hc1⟩ := bindL_some hm
    refine wp_cut (fun a w => ∃ s4 : Int, o1 = .brk s4 ∧ Agr 26 a [] ∧ St I w0 w [F]) ?_ ?_
    · refine wp_block (wp_loopM (R := Bool) (S := Int) (fun s3 a w => Agr 26 a [(0, va0), (1, va1), (5, .int .i64 s3)] ∧ St I w0 w [F]) hl1 ?_ ?_)
      · exact ⟨haq7.pick' ⟨rfl, rfl, rfl, trivial⟩, St.sel hsq7 1 [0] rfl rfl⟩
      · rintro s3 o2 hm hf1 aq24 wq24 ⟨haq24, hsq24⟩
        unfold m_w_eqIntS_l0 at hm
        refine wp_seq ?_
        refine wp_seq ?_
        refine wp_region_lit ?_
        refine seq_op0 haq24 hsq24 (opT_move (v := .int .i64 s3) rfl rfl) rfl rfl ?_
        rintro u aq25 wq25 hf haq25 hsq25
        obtain rfl := Eq.symm hf
        clear haq24 hsq24 aq24 wq24
        refine seq_op0 haq25 hsq25 (opT_move (v := va0) rfl rfl) rfl rfl ?_
        rintro u aq26 wq26 hf haq26 hsq26
        obtain rfl := Eq.symm hf
        clear haq25 hsq25 aq25 wq25
        refine seq_op0 haq26 hsq26 (opT_len_hd (v := va0) (n := p0a.length) (Hd.of_rd ra0) Try.underlying34 rfl rfl) rfl rfl ?_
        rintro u aq27 wq27 hf haq27 hsq27
        obtain rfl := Eq.symm hf
        clear haq26 hsq26 aq26 wq26
        refine seq_op0 haq27 hsq27 (opT_cmp (k := .i64) (m := s3) (n := (p0a.length : Int)) (c := decide (s3 < (p0a.length : Int))) rfl rfl rfl rfl rfl) rfl rfl ?_
        rintro u aq28 wq28 hf haq28 hsq28
        obtain rfl := Eq.symm hf
        clear haq27 hsq27 aq27 wq27
        refine wpList_nil ?_
        replace haq28 := haq28.pick' (L' := [(0, va0), (1, va1), (5, .int .i64 s3), (14, .bool (decide (s3 < (p0a.length : Int))))]) ⟨rfl, rfl, rfl, rfl, trivial⟩
        refine nrm ?_
        rcases two (decide (s3 < (p0a.length : Int))) with hb6 | hb6
        · replace hm := ifFe hb6 hm
          refine cnd_false (b := decide (s3 < (p0a.length : Int))) haq28 rfl rfl hb6 ?_
          refine wp_exit ?_
          refine thenX ?_
          refine thenX ?_
          refine ex_in ?_
          refine nrm ?_
          exact ⟨_, loopBrk hm hf1, ⟨haq28.pick' trivial, St.sel hsq28 1 [0] rfl rfl⟩⟩
        · replace hm := ifTe hb6 hm
          refine cnd_true (b := decide (s3 < (p0a.length : Int))) haq28 rfl rfl hb6 ?_
          refine wp_skip ?_
          refine nrm ?_
          refine wp_seq ?_
          refine wp_block ?_
          refine wp_seq ?_
          obtain ⟨x5, e5, hm⟩ := bind_some hm
          obtain ⟨x6, e6, hm⟩ := bind_some hm
          refine wp_draw (L := [(0, va0), (1, va1), (5, .int .i64 s3), (14, .bool (decide (s3 < (p0a.length : Int))))]) (C := [F]) { ops := [⟨[], [], [], [0], fun | [xo0] => xo0 = va0 | _ => True, [(0, none)]⟩, ⟨[], [], [], [1], fun | [xo1] => xo1 = .int .i64 s3 | _ => True, [(5, none)]⟩, ⟨[], [], [], [2], fun | [xo2] => xo2 = pt va0 (s3.toNat * 1) | _ => True, [(17, some 0), (18, some 1)]⟩, ⟨[], [], [], [3], fun | [xo3] => xo3 = .int .i64 x5 | _ => True, [(19, some 2)]⟩, ⟨[], [], [], [4], fun | [xo4] => xo4 = va1 | _ => True, [(1, none)]⟩, ⟨[], [], [], [5], fun | [xo5] => xo5 = .int .i64 s3 | _ => True, [(5, none)]⟩, ⟨[], [], [], [6], fun | [xo6] => xo6 = pt va1 (s3.toNat * 1) | _ => True, [(21, some 4), (22, some 5)]⟩, ⟨[], [], [], [7], fun | [xo7] => xo7 = .int .i64 x6 | _ => True, [(23, some 6)]⟩, ⟨[], [], [], [8], fun | [xo8] => xo8 = .bool (x5 != x6) | _ => True, [(20, some 3), (24, some 7)]⟩], res := [], base := [], pre := [[], [], [0, 1], [0, 1, 2], [], [], [4, 5], [4, 5, 6], [0, 1, 2, 3, 4, 5, 6, 7]], fin := [(0, none), (1, none), (5, none), (25, some 8)], left := [] } (by kernel_rfl) haq28 hsq28 (perm_sel [0] (m := 1) rfl rfl) (by kernel_rfl) (by kernel_rfl) ?_ ?_
          · exact ⟨Plan.goal_run fun vs hf => ⟨wants_none rfl, OpT.conv (OpT.evs (ev' := evL [(0, va0)]) (opT_move (v := va0) rfl rfl) rfl [.tmp 0] rfl ⟨rfl, trivial⟩) rfl (fun _ h => Eq.trans h rfl) (fun _ => rfl)⟩, Plan.goal_run fun vs hf => ⟨wants_none rfl, OpT.conv (OpT.evs (ev' := evL [(5, .int .i64 s3)]) (opT_move (v := .int .i64 s3) rfl rfl) rfl [.tmp 5] rfl ⟨rfl, trivial⟩) rfl (fun _ h => Eq.trans h rfl) (fun _ => rfl)⟩, Plan.goal_run fun vs hf => ⟨wants_none rfl, OpT.conv (OpT.evs (ev' := evL [(17, va0), (18, .int .i64 s3)]) (opT_index_hd (xs := p0a) (i := s3) (n := 1) (Hd.of_rd ra0) Try.underlying34 ti3 rfl rfl rfl (getI_in e5)) rfl [.tmp 17, .tmp 18] rfl ⟨(hf 0 (mb rfl)), (hf 1 (mb rfl)), trivial⟩) rfl (fun _ h => Eq.trans h rfl) (fun _ => rfl)⟩, Plan.goal_run fun vs hf => ⟨wants_none rfl, OpT.conv (OpT.evs (ev' := evL [(19, pt va0 (s3.toNat * 1))]) (opT_load_el (S := rInt) (xs := p0a) (a := x5) (i := s3) (k := 1) (off := 0) (f := fun (x : Int) => x) ra0 e5 Fld.self ti3 rfl rfl rfl rfl rfl) rfl [.tmp 19] rfl ⟨(hf 2 (mb rfl)), trivial⟩) rfl (fun _ h => lds_one h) (fun _ => rfl)⟩, Plan.goal_run fun vs hf => ⟨wants_none rfl, OpT.conv (OpT.evs (ev' := evL [(1, va1)]) (opT_move (v := va1) rfl rfl) rfl [.tmp 1] rfl ⟨rfl, trivial⟩) rfl (fun _ h => Eq.trans h rfl) (fun _ => rfl)⟩, Plan.goal_run fun vs hf => ⟨wants_none rfl, OpT.conv (OpT.evs (ev' := evL [(5, .int .i64 s3)]) (opT_move (v := .int .i64 s3) rfl rfl) rfl [.tmp 5] rfl ⟨rfl, trivial⟩) rfl (fun _ h => Eq.trans h rfl) (fun _ => rfl)⟩, Plan.goal_run fun vs hf => ⟨wants_none rfl, OpT.conv (OpT.evs (ev' := evL [(21, va1), (22, .int .i64 s3)]) (opT_index_hd (xs := p1b) (i := s3) (n := 1) (Hd.of_rd ra1) Try.underlying34 ti3 rfl rfl rfl (getI_in e6)) rfl [.tmp 21, .tmp 22] rfl ⟨(hf 4 (mb rfl)), (hf 5 (mb rfl)), trivial⟩) rfl (fun _ h => Eq.trans h rfl) (fun _ => rfl)⟩, Plan.goal_run fun vs hf => ⟨wants_none rfl, OpT.conv (OpT.evs (ev' := evL [(23, pt va1 (s3.toNat * 1))]) (opT_load_el (S := rInt) (xs := p1b) (a := x6) (i := s3) (k := 1) (off := 0) (f := fun (x : Int) => x) ra1 e6 Fld.self ti3 rfl rfl rfl rfl rfl) rfl [.tmp 23] rfl ⟨(hf 6 (mb rfl)), trivial⟩) rfl (fun _ h => lds_one h) (fun _ => rfl)⟩, Plan.goal_run fun vs hf => ⟨wants_none rfl, OpT.conv (OpT.evs (ev' := evL [(20, .int .i64 x5), (24, .int .i64 x6)]) (opT_cmp (k := .i64) (m := x5) (n := x6) (c := x5 != x6) rfl rfl rfl rfl rfl) rfl [.tmp 20, .tmp 24] rfl ⟨(hf 3 (mb rfl)), (hf 7 (mb rfl)), trivial⟩) rfl (fun _ h => Eq.trans h rfl) (fun _ => rfl)⟩, trivial⟩
          intro vs aq29 wq29 hf haq29 hsq29
          clear haq28 hsq28
          replace haq29 := haq29.pick' (L' := [(0, va0), (1, va1), (5, .int .i64 s3), (25, .bool (x5 != x6))]) ⟨rfl, rfl, rfl, (congrArg some (show _ = _ from (hf 8 (Nat.le_of_ble_eq_true rfl)))), trivial⟩
          replace hsq29 : St I w0 wq29 [F] := hsq29
          clear hf vs
          refine nrm ?_
          rcases two (x5 != x6) with hb7 | hb7
          · replace hm := ifFe hb7 hm
            refine cnd_false (b := x5 != x6) haq29 rfl rfl hb7 ?_
            refine wp_skip ?_
            refine nrmB ?_
            refine nrm ?_
            refine wp_region_lit ?_
            refine seq_op0 haq29 hsq29 (opT_move (v := .int .i64 s3) rfl rfl) rfl rfl ?_
            rintro u aq30 wq30 hf haq30 hsq30
            obtain rfl := Eq.symm hf
            clear haq29 hsq29 aq29 wq29
            refine seq_op0 haq30 hsq30 (opT_add (m := s3) (n := 1) rfl rfl rfl) rfl rfl ?_
            rintro u aq31 wq31 hf haq31 hsq31
            obtain rfl := Eq.symm hf
            clear haq30 hsq30 aq30 wq30
            refine seq_op0 haq31 hsq31 (opT_assign (v := .int .i64 (IntKind.i64.wrap (s3 + 1))) rfl rfl) rfl rfl ?_
            rintro u aq32 wq32 hf haq32 hsq32
            obtain rfl := Eq.symm hf
            clear haq31 hsq31 aq31 wq31
            refine wpList_nil ?_
            replace haq32 := haq32.pick' (L' := [(0, va0), (1, va1), (5, .int .i64 (IntKind.i64.wrap (s3 + 1)))]) ⟨rfl, rfl, rfl, trivial⟩
            refine nrm ?_
            exact ⟨_, (Option.some.inj hm).symm, ⟨haq32.pick' ⟨rfl, rfl, rfl, trivial⟩, St.sel hsq32 1 [0] rfl rfl⟩⟩
          · replace hm := ifTe hb7 hm
            refine cnd_true (b := x5 != x6) haq29 rfl rfl hb7 ?_
            refine wp_seq ?_
            refine wp_region_lit ?_
            refine seq_op0 haq29 hsq29 (opT_assign (v := .bool false) rfl rfl) rfl rfl ?_
            rintro u aq33 wq33 hf haq33 hsq33
            obtain rfl := Eq.symm hf
            clear haq29 hsq29 aq29 wq29
            refine wpList_nil ?_
            replace haq33 := haq33.pick' (L' := [(4, .bool false)]) ⟨rfl, trivial⟩
            refine nrm ?_
            refine wp_ret ?_
            refine blkR ?_
            refine thenR ?_
            refine thenR ?_
            refine blkR ?_
            refine thenR ?_
            refine thenR ?_
            replace hm := loopRet hm hf1 hc1
            obtain rfl := Option.some.inj hm
            exact ret_1 haq33 rfl (res_tmp haq33 rfl) ⟨_, rfl, rfl, _, Hp.le.rfl, St.sel (hsq33) 1 [0] rfl rfl⟩
    · rintro aq34 wq34 ⟨s4, ho1, haq34, hsq34⟩
      replace hm := loopOut ho1 hc1
      clear ho1 hc1 hl1
      refine nrm ?_
      refine wp_seq ?_
      refine wp_region_lit ?_
      refine seq_op0 haq34 hsq34 (opT_assign (v := .bool true) rfl rfl) rfl rfl ?_
      rintro u aq35 wq35 hf haq35 hsq35
      obtain rfl := Eq.symm hf
      clear haq34 hsq34 aq34 wq34
      refine wpList_nil ?_
      replace haq35 := haq35.pick' (L' := [(4, .bool true)]) ⟨rfl, trivial⟩
      refine nrm ?_
      refine wp_ret ?_
      obtain rfl := Option.some.inj hm
      exact ret_1 haq35 rfl (res_tmp haq35 rfl) ⟨_, rfl, rfl, _, Hp.le.rfl, St.sel (hsq35) 1 [0] rfl rfl⟩
  · replace hm := ifTe hb1 hm
    refine cnd_true (b := (p0a.length : Int) != (p1b.length : Int)) haq6 rfl rfl hb1 ?_
    refine wp_seq ?_
    refine wp_region_lit ?_
    refine seq_op0 haq6 hsq6 (opT_assign (v := .bool false) rfl rfl) rfl rfl ?_
    rintro u aq36 wq36 hf haq36 hsq36
    obtain rfl := Eq.symm hf
    clear haq6 hsq6 aq6 wq6
    refine wpList_nil ?_
    replace haq36 := haq36.pick' (L' := [(4, .bool false)]) ⟨rfl, trivial⟩
    refine nrm ?_
    refine wp_ret ?_
    refine thenR ?_
    obtain rfl := Option.some.inj hm
    exact ret_1 haq36 rfl (res_tmp haq36 rfl) ⟨_, rfl, rfl, _, Hp.le.rfl, St.sel (hsq36) 1 [0] rfl rfl⟩
set_option maxHeartbeats 8000000 in
theorem c_w_toBoolS (p0a : List Bool) (r : List Bool) (hm : m_w_toBoolS p0a = some r) {I : Hp} {w0 : World} (va0 : Value) (ra0 : (rSlice 4 rBool).rd I [va0] p0a) : Con Try.prog 49 #[va0] I w0 [] (fun v => True) (fun v => [Ch.own (rSlice 4 rBool) [v] r]) := by
  refine con_of_wp (n := 22) [(0, va0)] Try.func49 rfl rfl (Nat.le_of_ble_eq_true rfl) (args_all ⟨rfl, trivial⟩) (fun F w a ha hs => ?_) (fun v => ⟨dp_own (dp_slice dp_bool), trivial⟩)
  unfold m_w_toBoolS at hm
  refine wp_seq ?_
  refine wp_region_lit ?_
  refine seq_op0 ha hs (opT_assign (v := .slice none 0 0) rfl rfl) rfl rfl ?_
  rintro u aq1 wq1 hf haq1 hsq1
  obtain rfl := Eq.symm hf
  clear ha hs a w
  refine wpList_nil ?_
  replace haq1 := haq1.pick' (L' := [(0, va0)]) ⟨rfl, trivial⟩
  refine nrm ?_
  refine wp_seq ?_
  refine wp_region_lit ?_
  refine seq_op0 haq1 hsq1 (opT_move (v := va0) rfl rfl) rfl rfl ?_
  rintro u aq2 wq2 hf haq2 hsq2
  obtain rfl := Eq.symm hf
  clear haq1 hsq1 aq1 wq1
  refine seq_op0 haq2 hsq2 (opT_len_hd (v := va0) (n := p0a.length) (Hd.of_rd ra0) Try.underlying22 rfl rfl) rfl rfl ?_
  rintro u aq3 wq3 hf haq3 hsq3
  obtain rfl := Eq.symm hf
  clear haq2 hsq2 aq2 wq2
  obtain ⟨x1, hk1, hm⟩ := bind_some hm
  refine seq_op haq3 hsq3 rfl (opT_mk (E := 4) (R := rBool) (zv := .bool false) (z := (false : Bool)) zro_flat Try.underlying22 tz4 rfl rfl (by decide) (by decide) rfl rfl hk1) (List.Perm.refl _) rfl ?_
  rintro v1 aq4 wq4 - haq4 (hsq4 : St I w0 wq4 [Ch.own (rSlice 4 rBool) [v1] x1, F])
  clear haq3 hsq3 aq3 wq3
  refine seq_op0 haq4 hsq4 (opT_assign (v := v1) rfl rfl) rfl rfl ?_
  rintro u aq5 wq5 hf haq5 hsq5
  obtain rfl := Eq.symm hf
  clear haq4 hsq4 aq4 wq4
  refine wpList_nil ?_
  replace haq5 := haq5.pick' (L' := [(0, va0), (3, v1)]) ⟨rfl, rfl, trivial⟩
  refine nrm ?_
  refine wp_seq ?_
  refine wp_seq ?_
  refine wp_region_lit ?_
  refine seq_op0 haq5 hsq5 (opT_assign (v := .int .i64 0) rfl rfl) rfl rfl ?_
  rintro u aq6 wq6 hf haq6 hsq6
  obtain rfl := Eq.symm hf
  clear haq5 hsq5 aq5 wq5
  refine wpList_nil ?_
  replace haq6 := haq6.pick' (L' := [(0, va0), (3, v1), (4, .int .i64 0)]) ⟨rfl, rfl, rfl, trivial⟩
  refine nrm ?_
  obtain ⟨o1, hl1, hc1⟩ := bindL_some hm
  refine wp_cut (fun a w => ∃ s4 : (List Bool) × Int, o1 = .brk s4 ∧ Agr 22 a [(3, v1)] ∧ St I w0 w [Ch.own (rSlice 4 rBool) [v1] s4.1, F]) ?_ ?_
  · refine wp_block (wp_loopM (R := List Bool) (S := (List Bool) × Int) (fun s3 a w => Agr 22 a [(0, va0), (3, v1), (4, .int .i64 s3.2)] ∧ St I w0 w [Ch.own (rSlice 4 rBool) [v1] s3.1, F]) hl1 ?_ ?_)
    · exact ⟨haq6.pick' ⟨rfl, rfl, rfl, trivial⟩, St.sel hsq6 2 [0, 1] rfl rfl⟩
    · rintro s3 o2 hm hf1 aq37 wq37 ⟨haq37, hsq37⟩
      unfold m_w_toBoolS_l0 at hm
      refine wp_seq ?_
      refine wp_seq ?_
      refine wp_region_lit ?_
      refine seq_op0 haq37 hsq37 (opT_move (v := .int .i64 s3.2) rfl rfl) rfl rfl ?_
      rintro u aq38 wq38 hf haq38 hsq38
      obtain rfl := Eq.symm hf
      clear haq37 hsq37 aq37 wq37
      refine seq_op0 haq38 hsq38 (opT_move (v := va0) rfl rfl) rfl rfl ?_
      rintro u aq39 wq39 hf haq39 hsq39
      obtain rfl := Eq.symm hf
      clear haq38 hsq38 aq38 wq38
      refine seq_op0 haq39 hsq39 (opT_len_hd (v := va0) (n := p0a.length) (Hd.of_rd ra0) Try.underlying22 rfl rfl) rfl rfl ?_
      rintro u aq40 wq40 hf haq40 hsq40
      obtain rfl := Eq.symm hf
      clear haq39 hsq39 aq39 wq39
      refine seq_op0 haq40 hsq40 (opT_cmp (k := .i64) (m := s3.2) (n := (p0a.length : Int)) (c := decide (s3.2 < (p0a.length : Int))) rfl rfl rfl rfl rfl) rfl rfl ?_
      rintro u aq41 wq41 hf haq41 hsq41
      obtain rfl := Eq.symm hf
      clear haq40 hsq40 aq40 wq40
      refine wpList_nil ?_
      replace haq41 := haq41.pick' (L' := [(0, va0), (3, v1), (4, .int .i64 s3.2), (11, .bool (decide (s3.2 < (p0a.length : Int))))]) ⟨rfl, rfl, rfl, rfl, trivial⟩
      refine nrm ?_
      rcases two (decide (s3.2 < (p0a.length : Int))) with hb3 | hb3
      · replace hm := ifFe hb3 hm
        refine cnd_false (b := decide (s3.2 < (p0a.length : Int))) haq41 rfl rfl hb3 ?_
        refine wp_exit ?_
        refine thenX ?_
        refine thenX ?_
        refine ex_in ?_
        refine nrm ?_
        exact ⟨_, loopBrk hm hf1, ⟨haq41.pick' ⟨rfl, trivial⟩, St.sel hsq41 2 [0, 1] rfl rfl⟩⟩
      · replace hm := ifTe hb3 hm
        refine cnd_true (b := decide (s3.2 < (p0a.length : Int))) haq41 rfl rfl hb3 ?_
        refine wp_skip ?_
        refine nrm ?_
        refine wp_seq ?_
        refine wp_block ?_
        refine wp_region_lit ?_
        refine seq_op0 haq41 hsq41 (opT_move (v := v1) rfl rfl) rfl rfl ?_
        rintro u aq42 wq42 hf haq42 hsq42
        obtain rfl := Eq.symm hf
        clear haq41 hsq41 aq41 wq41
        refine seq_op0 haq42 hsq42 (opT_move (v := .int .i64 s3.2) rfl rfl) rfl rfl ?_
        rintro u aq43 wq43 hf haq43 hsq43
        obtain rfl := Eq.symm hf
        clear haq42 hsq42 aq42 wq42
        refine seq_op0 haq43 hsq43 (opT_move (v := va0) rfl rfl) rfl rfl ?_
        rintro u aq44 wq44 hf haq44 hsq44
        obtain rfl := Eq.symm hf
        clear haq43 hsq43 aq43 wq43
        refine seq_op0 haq44 hsq44 (opT_move (v := .int .i64 s3.2) rfl rfl) rfl rfl ?_
        rintro u aq45 wq45 hf haq45 hsq45
        obtain rfl := Eq.symm hf
        clear haq44 hsq44 aq44 wq44
        obtain ⟨x6, e5, hm⟩ := bind_some hm
        refine seq_op0 haq45 hsq45 (opT_index_hd (xs := p0a) (i := s3.2) (n := 1) (Hd.of_rd ra0) Try.underlying22 ti4 rfl rfl rfl (getI_in e5)) rfl rfl ?_
        rintro u aq46 wq46 hf haq46 hsq46
        obtain rfl := Eq.symm hf
        clear haq45 hsq45 aq45 wq45
        refine seq_op0 haq46 hsq46 (opT_load_el (S := rBool) (xs := p0a) (a := x6) (i := s3.2) (k := 1) (off := 0) (f := fun (x : Bool) => x) ra0 e5 Fld.self ti4 rfl rfl rfl rfl rfl) rfl rfl ?_
        rintro u aq47 wq47 hf haq47 hsq47
        obtain rfl := lds_one hf
        clear haq46 hsq46 aq46 wq46
        obtain ⟨x7, e6, hm⟩ := bind_some hm
        refine seq_op0 haq47 hsq47 (opT_index_hd (xs := s3.1) (i := s3.2) (n := 1) (St.hd hsq47 0 rfl).1 Try.underlying22 ti4 rfl rfl rfl (getI_in e6)) rfl rfl ?_
        rintro u aq48 wq48 hf haq48 hsq48
        obtain rfl := Eq.symm hf
        clear haq47 hsq47 aq47 wq47
        refine seq_op haq48 hsq48 rfl (opT_store_el (E := 4) (R := rBool) (S := rBool) (xs := s3.1) (a := x7) (b := x6) (i := s3.2) (k := 1) (off := 0) (f := fun x y => y) (v := v1) (d := [.bool x6]) (u := .bool x6) sh_bool cpy_bool e6 Upd.self ti4 rfl rfl rfl rfl (allC rfl allN) rfl rfl (by decide) rfl) (perm_front (i := 0) rfl) rfl ?_
        rintro _ aq49 wq49 - haq49 (hsq49 : St I w0 wq49 [Ch.own (rSlice 4 rBool) [v1] (s3.1.set s3.2.toNat x6), F])
        clear haq48 hsq48 aq48 wq48
        refine wpList_nil ?_
        replace haq49 := haq49.pick' (L' := [(0, va0), (3, v1), (4, .int .i64 s3.2)]) ⟨rfl, rfl, rfl, trivial⟩
        refine nrmB ?_
        refine nrm ?_
        refine wp_region_lit ?_
        refine seq_op0 haq49 hsq49 (opT_move (v := .int .i64 s3.2) rfl rfl) rfl rfl ?_
        rintro u aq50 wq50 hf haq50 hsq50
        obtain rfl := Eq.symm hf
        clear haq49 hsq49 aq49 wq49
        refine seq_op0 haq50 hsq50 (opT_add (m := s3.2) (n := 1) rfl rfl rfl) rfl rfl ?_
        rintro u aq51 wq51 hf haq51 hsq51
        obtain rfl := Eq.symm hf
        clear haq50 hsq50 aq50 wq50
        refine seq_op0 haq51 hsq51 (opT_assign (v := .int .i64 (IntKind.i64.wrap (s3.2 + 1))) rfl rfl) rfl rfl ?_
        rintro u aq52 wq52 hf haq52 hsq52
        obtain rfl := Eq.symm hf
        clear haq51 hsq51 aq51 wq51
        refine wpList_nil ?_
        replace haq52 := haq52.pick' (L' := [(0, va0), (3, v1), (4, .int .i64 (IntKind.i64.wrap (s3.2 + 1)))]) ⟨rfl, rfl, rfl, trivial⟩
        refine nrm ?_
        exact ⟨_, (Option.some.inj hm).symm, ⟨haq52.pick' ⟨rfl, rfl, rfl, trivial⟩, St.sel hsq52 2 [0, 1] rfl rfl⟩⟩
  · rintro aq53 wq53 ⟨s4, ho1, haq53, hsq53⟩
    replace hm := loopOut ho1 hc1
    clear ho1 hc1 hl1
    refine nrm ?_
    refine wp_seq ?_
    refine wp_region_lit ?_
    refine seq_op0 haq53 hsq53 (opT_move (v := v1) rfl rfl) rfl rfl ?_
    rintro u aq54 wq54 hf haq54 hsq54
    obtain rfl := Eq.symm hf
    clear haq53 hsq53 aq53 wq53
    refine seq_op0 haq54 hsq54 (opT_assign (v := v1) rfl rfl) rfl rfl ?_
    rintro u aq55 wq55 hf haq55 hsq55
    obtain rfl := Eq.symm hf
    clear haq54 hsq54 aq54 wq54
    refine wpList_nil ?_
    replace haq55 := haq55.pick' (L' := [(2, v1)]) ⟨rfl, trivial⟩
    refine nrm ?_
    refine wp_ret ?_
    obtain rfl := Option.some.inj hm
    exact ret_1 haq55 rfl (res_tmp haq55 rfl) ⟨_, rfl, trivial, _, Hp.le.rfl, St.sel (hsq55) 2 [0, 1] rfl rfl⟩
set_option maxHeartbeats 8000000 in
theorem c_g_slices_Index_S_int_int (p0s : List Int) (p1v : Int) (r : Int) (hm : m_g_slices_Index_S_int_int p0s p1v = some r) {I : Hp} {w0 : World} (va0 : Value) (ra0 : (rSlice 3 rInt).rd I [va0] p0s) : Con Try.prog 112 #[va0, .int .i64 p1v] I w0 [] (fun v => v = .int .i64 r) (fun v => []) := by
  refine con_of_wp (n := 19) [(0, va0), (1, .int .i64 p1v)] Try.func112 rfl rfl (Nat.le_of_ble_eq_true rfl) (args_all ⟨rfl, rfl, trivial⟩) (fun F w a ha hs => ?_) (fun v => trivial)
  unfold m_g_slices_Index_S_int_int at hm
  refine wp_seq ?_
  refine wp_region_lit ?_
  refine seq_op0 ha hs (opT_assign (v := .int .i64 0) rfl rfl) rfl rfl ?_
  rintro u aq1 wq1 hf haq1 hsq1
  obtain rfl := Eq.symm hf
  clear ha hs a w
  refine wpList_nil ?_
  replace haq1 := haq1.pick' (L' := [(0, va0), (1, .int .i64 p1v)]) ⟨rfl, rfl, trivial⟩
  refine nrm ?_
  refine wp_seq ?_
  refine wp_seq ?_
  refine wp_region_lit ?_
  refine seq_op0 haq1 hsq1 (opT_move (v := va0) rfl rfl) rfl rfl ?_
  rintro u aq2 wq2 hf haq2 hsq2
  obtain rfl := Eq.symm hf
  clear haq1 hsq1 aq1 wq1
  refine seq_op0 haq2 hsq2 (opT_len_hd (v := va0) (n := p0s.length) (Hd.of_rd ra0) Try.underlying34 rfl rfl) rfl rfl ?_
  rintro u aq3 wq3 hf haq3 hsq3
  obtain rfl := Eq.symm hf
  clear haq2 hsq2 aq2 wq2
  refine seq_op0 haq3 hsq3 (opT_move (v := .int .i64 0) rfl rfl) rfl rfl ?_
  rintro u aq4 wq4 hf haq4 hsq4
  obtain rfl := Eq.symm hf
  clear haq3 hsq3 aq3 wq3
  refine wpList_nil ?_
  replace haq4 := haq4.pick' (L' := [(0, va0), (1, .int .i64 p1v), (7, .int .i64 (p0s.length : Int)), (8, .int .i64 0)]) ⟨rfl, rfl, rfl, rfl, trivial⟩
  refine nrm ?_
  obtain ⟨o1, hl1, hc1⟩ := bindL_some hm
  refine wp_cut (fun a w => ∃ s4 : Int, o1 = .brk s4 ∧ Agr 19 a [] ∧ St I w0 w [F]) ?_ ?_
  · refine wp_block (wp_loopM (R := Int) (S := Int) (fun s3 a w => Agr 19 a [(0, va0), (1, .int .i64 p1v), (7, .int .i64 (p0s.length : Int)), (8, .int .i64 s3)] ∧ St I w0 w [F]) hl1 ?_ ?_)
    · exact ⟨haq4.pick' ⟨rfl, rfl, rfl, rfl, trivial⟩, St.sel hsq4 1 [0] rfl rfl⟩
    · rintro s3 o2 hm hf1 aq31 wq31 ⟨haq31, hsq31⟩
      unfold m_g_slices_Index_S_int_int_l0 at hm
      refine wp_seq ?_
      refine wp_region_lit ?_
      refine seq_op0 haq31 hsq31 (opT_cmp (k := .i64) (m := s3) (n := (p0s.length : Int)) (c := decide (s3 < (p0s.length : Int))) rfl rfl rfl rfl rfl) rfl rfl ?_
      rintro u aq32 wq32 hf haq32 hsq32
      obtain rfl := Eq.symm hf
      clear haq31 hsq31 aq31 wq31
      refine wpList_nil ?_
      replace haq32 := haq32.pick' (L' := [(0, va0), (1, .int .i64 p1v), (7, .int .i64 (p0s.length : Int)), (8, .int .i64 s3), (9, .bool (decide (s3 < (p0s.length : Int))))]) ⟨rfl, rfl, rfl, rfl, rfl, trivial⟩
      refine nrm ?_
      refine wp_seq ?_
      rcases two (decide (s3 < (p0s.length : Int))) with hb5 | hb5
      · replace hm := ifFe hb5 hm
        refine cnd_false (b := decide (s3 < (p0s.length : Int))) haq32 rfl rfl hb5 ?_
        refine wp_exit ?_
        refine thenX ?_
        refine thenX ?_
        refine ex_in ?_
        refine nrm ?_
        exact ⟨_, loopBrk hm hf1, ⟨haq32.pick' trivial, St.sel hsq32 1 [0] rfl rfl⟩⟩
      · replace hm := ifTe hb5 hm
        refine cnd_true (b := decide (s3 < (p0s.length : Int))) haq32 rfl rfl hb5 ?_
        refine wp_skip ?_
        refine nrm ?_
        refine wp_seq ?_
        refine wp_block ?_
        refine wp_seq ?_
        refine wp_region_lit ?_
        refine seq_op0 haq32 hsq32 (opT_move (v := .int .i64 s3) rfl rfl) rfl rfl ?_
        rintro u aq33 wq33 hf haq33 hsq33
        obtain rfl := Eq.symm hf
        clear haq32 hsq32 aq32 wq32
        refine seq_op0 haq33 hsq33 (opT_assign (v := .int .i64 s3) rfl rfl) rfl rfl ?_
        rintro u aq34 wq34 hf haq34 hsq34
        obtain rfl := Eq.symm hf
        clear haq33 hsq33 aq33 wq33
        refine wpList_nil ?_
        replace haq34 := haq34.pick' (L' := [(0, va0), (1, .int .i64 p1v), (5, .int .i64 s3), (7, .int .i64 (p0s.length : Int)), (8, .int .i64 s3)]) ⟨rfl, rfl, rfl, rfl, rfl, trivial⟩
        refine nrm ?_
        refine wp_seq ?_
        refine wp_region_lit ?_
        refine seq_op0 haq34 hsq34 (opT_move (v := .int .i64 p1v) rfl rfl) rfl rfl ?_
        rintro u aq35 wq35 hf haq35 hsq35
        obtain rfl := Eq.symm hf
        clear haq34 hsq34 aq34 wq34
        refine seq_op0 haq35 hsq35 (opT_move (v := va0) rfl rfl) rfl rfl ?_
        rintro u aq36 wq36 hf haq36 hsq36
        obtain rfl := Eq.symm hf
        clear haq35 hsq35 aq35 wq35
        refine seq_op0 haq36 hsq36 (opT_move (v := .int .i64 s3) rfl rfl) rfl rfl ?_
        rintro u aq37 wq37 hf haq37 hsq37
        obtain rfl := Eq.symm hf
        clear haq36 hsq36 aq36 wq36
        obtain ⟨x3, e3, hm⟩ := bind_some hm
        refine seq_op0 haq37 hsq37 (opT_index_hd (xs := p0s) (i := s3) (n := 1) (Hd.of_rd ra0) Try.underlying34 ti3 rfl rfl rfl (getI_in e3)) rfl rfl ?_
        rintro u aq38 wq38 hf haq38 hsq38
        obtain rfl := Eq.symm hf
        clear haq37 hsq37 aq37 wq37
        refine seq_op0 haq38 hsq38 (opT_load_el (S := rInt) (xs := p0s) (a := x3) (i := s3) (k := 1) (off := 0) (f := fun (x : Int) => x) ra0 e3 Fld.self ti3 rfl rfl rfl rfl rfl) rfl rfl ?_
        rintro u aq39 wq39 hf haq39 hsq39
        obtain rfl := lds_one hf
        clear haq38 hsq38 aq38 wq38
        refine seq_op0 haq39 hsq39 (opT_cmp (k := .i64) (m := p1v) (n := x3) (c := p1v == x3) rfl rfl rfl rfl rfl) rfl rfl ?_
        rintro u aq40 wq40 hf haq40 hsq40
        obtain rfl := Eq.symm hf
        clear haq39 hsq39 aq39 wq39
        refine wpList_nil ?_
        replace haq40 := haq40.pick' (L' := [(0, va0), (1, .int .i64 p1v), (5, .int .i64 s3), (7, .int .i64 (p0s.length : Int)), (8, .int .i64 s3), (16, .bool (p1v == x3))]) ⟨rfl, rfl, rfl, rfl, rfl, rfl, trivial⟩
        refine nrm ?_
        rcases two (p1v == x3) with hb6 | hb6
        · replace hm := ifFe hb6 hm
          refine cnd_false (b := p1v == x3) haq40 rfl rfl hb6 ?_
          refine wp_skip ?_
          refine nrmB ?_
          refine nrm ?_
          refine wp_region_lit ?_
          refine seq_op0 haq40 hsq40 (opT_add (m := s3) (n := 1) rfl rfl rfl) rfl rfl ?_
          rintro u aq41 wq41 hf haq41 hsq41
          obtain rfl := Eq.symm hf
          clear haq40 hsq40 aq40 wq40
          refine seq_op0 haq41 hsq41 (opT_move (v := .int .i64 (IntKind.i64.wrap (s3 + 1))) rfl rfl) rfl rfl ?_
          rintro u aq42 wq42 hf haq42 hsq42
          obtain rfl := Eq.symm hf
          clear haq41 hsq41 aq41 wq41
          refine wpList_nil ?_
          replace haq42 := haq42.pick' (L' := [(0, va0), (1, .int .i64 p1v), (7, .int .i64 (p0s.length : Int)), (8, .int .i64 (IntKind.i64.wrap (s3 + 1)))]) ⟨rfl, rfl, rfl, rfl, trivial⟩
          refine nrm ?_
          exact ⟨_, (Option.some.inj hm).symm, ⟨haq42.pick' ⟨rfl, rfl, rfl, rfl, trivial⟩, St.sel hsq42 1 [0] rfl rfl⟩⟩
        · replace hm := ifTe hb6 hm
          refine cnd_true (b := p1v == x3) haq40 rfl rfl hb6 ?_
          refine wp_seq ?_
          refine wp_region_lit ?_
          refine seq_op0 haq40 hsq40 (opT_move (v := .int .i64 s3) rfl rfl) rfl rfl ?_
          rintro u aq43 wq43 hf haq43 hsq43
          obtain rfl := Eq.symm hf
          clear haq40 hsq40 aq40 wq40
          refine seq_op0 haq43 hsq43 (opT_assign (v := .int .i64 s3) rfl rfl) rfl rfl ?_
          rintro u aq44 wq44 hf haq44 hsq44
          obtain rfl := Eq.symm hf
          clear haq43 hsq43 aq43 wq43
          refine wpList_nil ?_
          replace haq44 := haq44.pick' (L' := [(4, .int .i64 s3)]) ⟨rfl, trivial⟩
          refine nrm ?_
          refine wp_ret ?_
          refine blkR ?_
          refine thenR ?_
          refine thenR ?_
          refine blkR ?_
          refine thenR ?_
          refine thenR ?_
          replace hm := loopRet hm hf1 hc1
          obtain rfl := Option.some.inj hm
          exact ret_1 haq44 rfl (res_tmp haq44 rfl) ⟨_, rfl, rfl, _, Hp.le.rfl, St.sel (hsq44) 1 [0] rfl rfl⟩
  · rintro aq45 wq45 ⟨s4, ho1, haq45, hsq45⟩
    replace hm := loopOut ho1 hc1
    clear ho1 hc1 hl1
    refine nrm ?_
    refine wp_seq ?_
    refine wp_region_lit ?_
    refine seq_op0 haq45 hsq45 (opT_assign (v := .int .i64 (-1)) rfl rfl) rfl rfl ?_
    rintro u aq46 wq46 hf haq46 hsq46
    obtain rfl := Eq.symm hf
    clear haq45 hsq45 aq45 wq45
    refine wpList_nil ?_
    replace haq46 := haq46.pick' (L' := [(4, .int .i64 (-1))]) ⟨rfl, trivial⟩
    refine nrm ?_
    refine wp_ret ?_
    obtain rfl := Option.some.inj hm
    exact ret_1 haq46 rfl (res_tmp haq46 rfl) ⟨_, rfl, rfl, _, Hp.le.rfl, St.sel (hsq46) 1 [0] rfl rfl⟩
set_option maxHeartbeats 8000000 in
theorem c_s_l1In (p0x : Int) (p1low : Int) (p2high : Int) (r : Bool) (hm : m_s_l1In p0x p1low p2high = some r) {I : Hp} {w0 : World} : Con Try.prog 146 #[.int .i64 p0x, .int .i64 p1low, .int .i64 p2high] I w0 [] (fun v => v = .bool r) (fun v => []) := by
  refine con_of_wp (n := 15) [(0, .int .i64 p0x), (1, .int .i64 p1low), (2, .int .i64 p2high)] Try.func146 rfl rfl (Nat.le_of_ble_eq_true rfl) (args_all ⟨rfl, rfl, rfl, trivial⟩) (fun F w a ha hs => ?_) (fun v => trivial)
  unfold m_s_l1In at hm
  refine wp_seq ?_
  refine wp_region_lit ?_
  refine seq_op0 ha hs (opT_assign (v := .bool false) rfl rfl) rfl rfl ?_
  rintro u aq1 wq1 hf haq1 hsq1
  obtain rfl := Eq.symm hf
  clear ha hs a w
  refine wpList_nil ?_
  replace haq1 := haq1.pick' (L' := [(0, .int .i64 p0x), (1, .int .i64 p1low), (2, .int .i64 p2high)]) ⟨rfl, rfl, rfl, trivial⟩
  refine nrm ?_
  refine wp_seq ?_
  refine wp_region_lit ?_
  refine seq_op0 haq1 hsq1 (opT_move (v := .int .i64 p0x) rfl rfl) rfl rfl ?_
  rintro u aq2 wq2 hf haq2 hsq2
  obtain rfl := Eq.symm hf
  clear haq1 hsq1 aq1 wq1
  refine seq_op0 haq2 hsq2 (opT_move (v := .int .i64 p1low) rfl rfl) rfl rfl ?_
  rintro u aq3 wq3 hf haq3 hsq3
  obtain rfl := Eq.symm hf
  clear haq2 hsq2 aq2 wq2
  refine seq_op0 haq3 hsq3 (opT_cmp (k := .i64) (m := p0x) (n := p1low) (c := decide (p0x ≥ p1low)) rfl rfl rfl rfl rfl) rfl rfl ?_
  rintro u aq4 wq4 hf haq4 hsq4
  obtain rfl := Eq.symm hf
  clear haq3 hsq3 aq3 wq3
  refine seq_op0 haq4 hsq4 (opT_move (v := .bool (decide (p0x ≥ p1low))) rfl rfl) rfl rfl ?_
  rintro u aq5 wq5 hf haq5 hsq5
  obtain rfl := Eq.symm hf
  clear haq4 hsq4 aq4 wq4
  rcases two (decide (p0x ≥ p1low)) with hb1 | hb1
  · replace hm := ifFe hb1 hm
    refine seq_skip (g := 3) (d := 10) (want := true) (b := decide (p0x ≥ p1low)) haq5 hsq5 rfl rfl rfl hb1 rfl ?_
    intro aq6 haq6
    refine seq_skip (g := 3) (d := 10) (want := true) (b := decide (p0x ≥ p1low)) haq6 hsq5 rfl rfl rfl hb1 rfl ?_
    intro aq7 haq7
    refine seq_skip (g := 3) (d := 10) (want := true) (b := decide (p0x ≥ p1low)) haq7 hsq5 rfl rfl rfl hb1 rfl ?_
    intro aq8 haq8
    refine seq_op0 haq8 hsq5 (opT_pick (b := decide (p0x ≥ p1low)) (v := .bool false) rfl rfl (ifF hb1)) rfl rfl ?_
    rintro u aq9 wq9 hf haq9 hsq9
    obtain rfl := Eq.symm hf
    clear haq8 hsq5 aq8 wq5
    refine seq_op0 haq9 hsq9 (opT_assign (v := .bool false) rfl rfl) rfl rfl ?_
    rintro u aq10 wq10 hf haq10 hsq10
    obtain rfl := Eq.symm hf
    clear haq9 hsq9 aq9 wq9
    refine wpList_nil ?_
    replace haq10 := haq10.pick' (L' := [(6, .bool false)]) ⟨rfl, trivial⟩
    refine nrm ?_
    refine wp_ret ?_
    obtain rfl := Option.some.inj hm
    exact ret_1 haq10 rfl (res_tmp haq10 rfl) ⟨_, rfl, rfl, _, Hp.le.rfl, St.sel (hsq10) 1 [0] rfl rfl⟩
  · replace hm := ifTe hb1 hm
    refine seq_op_g0 (g := 3) (d := 10) (want := true) (b := decide (p0x ≥ p1low)) haq5 hsq5 rfl rfl rfl hb1 (opT_move (v := .int .i64 p0x) rfl rfl) rfl ?_
    rintro u aq11 wq11 hf haq11 hsq11
    obtain rfl := Eq.symm hf
    clear haq5 hsq5 aq5 wq5
    refine seq_op_g0 (g := 3) (d := 10) (want := true) (b := decide (p0x ≥ p1low)) haq11 hsq11 rfl rfl rfl hb1 (opT_move (v := .int .i64 p2high) rfl rfl) rfl ?_
    rintro u aq12 wq12 hf haq12 hsq12
    obtain rfl := Eq.symm hf
    clear haq11 hsq11 aq11 wq11
    refine seq_op_g0 (g := 3) (d := 10) (want := true) (b := decide (p0x ≥ p1low)) haq12 hsq12 rfl rfl rfl hb1 (opT_cmp (k := .i64) (m := p0x) (n := p2high) (c := decide (p0x ≤ p2high)) rfl rfl rfl rfl rfl) rfl ?_
    rintro u aq13 wq13 hf haq13 hsq13
    obtain rfl := Eq.symm hf
    clear haq12 hsq12 aq12 wq12
    refine seq_op0 haq13 hsq13 (opT_pick (b := decide (p0x ≥ p1low)) (v := .bool (decide (p0x ≤ p2high))) rfl rfl (ifT hb1)) rfl rfl ?_
    rintro u aq14 wq14 hf haq14 hsq14
    obtain rfl := Eq.symm hf
    clear haq13 hsq13 aq13 wq13
    refine seq_op0 haq14 hsq14 (opT_assign (v := .bool (decide (p0x ≤ p2high))) rfl rfl) rfl rfl ?_
    rintro u aq15 wq15 hf haq15 hsq15
    obtain rfl := Eq.symm hf
    clear haq14 hsq14 aq14 wq14
    refine wpList_nil ?_
    replace haq15 := haq15.pick' (L' := [(6, .bool (decide (p0x ≤ p2high)))]) ⟨rfl, trivial⟩
    refine nrm ?_
    refine wp_ret ?_
    obtain rfl := Option.some.inj hm
    exact ret_1 haq15 rfl (res_tmp haq15 rfl) ⟨_, rfl, rfl, _, Hp.le.rfl, St.sel (hsq15) 1 [0] rfl rfl⟩
end Go.Proofs.Ytcihbmdppgpmjaa.D
