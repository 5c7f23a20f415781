/- Printed by dec.py: models of functions and the walks that show them. -/
import Derived.Test.YtcihbmdppgpmjaaCm
set_option linter.unusedVariables false
set_option linter.unusedSimpArgs false
set_option linter.unnecessarySimpa false
set_option maxRecDepth 100000
set_option maxHeartbeats 8000000
namespace Go.Proofs.Ytcihbmdppgpmjaa.D
open Go.RowKit
theorem c_s_l2Cmp (p0a : List Int) (p1b : List Int) (r : Int) (hm : m_s_l2Cmp p0a p1b = some r) {I : Hp} {w0 : World} (va0 : Value) (va1 : Value) (ra0 : (rSlice 3 rInt).rd I [va0] p0a) (ra1 : (rSlice 3 rInt).rd I [va1] p1b) : Con Try.prog 104 #[va0, va1] I w0 [] (fun v => v = .int .i64 r) (fun v => []) := by
  refine con_of_wp (n := 46) [(0, va0), (1, va1)] Try.func104 rfl rfl (Nat.le_of_ble_eq_true rfl) (args_all ⟨rfl, rfl, trivial⟩) (fun F w a ha hs => ?_) (fun v => trivial)
  unfold m_s_l2Cmp at hm
  refine wp_seq (wp_region_lit (rn ha hs (sv (opT_assign (v := .int .i64 0) rfl rfl) rfl rfl (enR (L' := [(0, va0), (1, va1)]) rfl ?_))))
  clear ha hs a w;intro a1 w1 A1 S1
  refine nrm (wp_seq (wp_seq (wp_region_lit (rn A1 S1 (sv (opT_assign (v := .int .i64 0) rfl rfl) rfl rfl (enR (L' := [(0, va0), (1, va1), (5, .int .i64 0)]) rfl ?_))))))
  clear A1 S1 a1 w1;intro a2 w2 A2 S2
  refine nrm ?_
  obtain ⟨o1, hl1, hc1⟩ := bindL_some hm
  refine wp_cut (fun a w => ∃ s4 : Int, o1 = .brk s4 ∧ Agr 46 a [(0, va0), (1, va1)] ∧ St I w0 w [F]) ?_ ?_
  · refine wp_block (wp_loopM (R := Int) (S := Int) (fun s3 a w => Agr 46 a [(0, va0), (1, va1), (5, .int .i64 s3)] ∧ St I w0 w [F]) hl1 ?_ ?_)
    · exact ⟨A2.pick' ⟨rfl, rfl, rfl, trivial⟩, St.sel S2 1 [0] rfl rfl⟩
    rintro s3 o2 hm hf1 a13 w13 ⟨A13, S13⟩
    unfold m_s_l2Cmp_l0 at hm
    refine wp_seq (wp_seq (wp_region_lit (rn A13 S13 (sv (opT_move (v := .int .i64 s3) rfl rfl) rfl rfl (sv (opT_move (v := va0) rfl rfl) rfl rfl (sv (opT_len_hd (v := va0) (n := p0a.length) (Hd.of_rd ra0) Try.underlying34 rfl rfl) rfl rfl (sv (opT_cmp (k := .i64) (m := s3) (n := (p0a.length : Int)) (c := decide (s3 < (p0a.length : Int))) rfl rfl rfl rfl rfl) rfl rfl (sv (opT_move (v := .bool (decide (s3 < (p0a.length : Int)))) rfl rfl) rfl rfl ?_))))))))
    rcases two (decide (s3 < (p0a.length : Int))) with hb9 | hb9
    · replace hm := ifFe hb9 hm
      refine ssk (g := 4) (d := 10) (want := true) (b := decide (s3 < (p0a.length : Int))) rfl rfl rfl hb9 rfl (ssk (g := 4) (d := 10) (want := true) (b := decide (s3 < (p0a.length : Int))) rfl rfl rfl hb9 rfl (ssk (g := 4) (d := 10) (want := true) (b := decide (s3 < (p0a.length : Int))) rfl rfl rfl hb9 rfl (ssk (g := 4) (d := 10) (want := true) (b := decide (s3 < (p0a.length : Int))) rfl rfl rfl hb9 rfl (sv (opT_pick (b := decide (s3 < (p0a.length : Int))) (v := .bool false) rfl rfl (ifF hb9)) rfl rfl (enR (L' := [(0, va0), (1, va1), (5, .int .i64 s3), (15, .bool false)]) rfl ?_)))))
      clear A13 S13 a13 w13;intro a14 w14 A14 S14
      refine nrm (cnd_false (b := false) A14 rfl rfl rfl ?_)
      exact wp_exit (thenX (thenX (ex_in (nrm (⟨_, loopBrk hm hf1, ⟨A14.pick' ⟨rfl, rfl, trivial⟩, St.sel S14 1 [0] rfl rfl⟩⟩)))))
    replace hm := ifTe hb9 hm
    refine svg (g := 4) (d := 10) (want := true) (b := decide (s3 < (p0a.length : Int))) rfl rfl rfl hb9 (opT_move (v := .int .i64 s3) rfl rfl) rfl (svg (g := 4) (d := 10) (want := true) (b := decide (s3 < (p0a.length : Int))) rfl rfl rfl hb9 (opT_move (v := va1) rfl rfl) rfl (svg (g := 4) (d := 10) (want := true) (b := decide (s3 < (p0a.length : Int))) rfl rfl rfl hb9 (opT_len_hd (v := va1) (n := p1b.length) (Hd.of_rd ra1) Try.underlying34 rfl rfl) rfl (svg (g := 4) (d := 10) (want := true) (b := decide (s3 < (p0a.length : Int))) rfl rfl rfl hb9 (opT_cmp (k := .i64) (m := s3) (n := (p1b.length : Int)) (c := decide (s3 < (p1b.length : Int))) rfl rfl rfl rfl rfl) rfl (sv (opT_pick (b := decide (s3 < (p0a.length : Int))) (v := .bool (decide (s3 < (p1b.length : Int)))) rfl rfl (ifT hb9)) rfl rfl (enR (L' := [(0, va0), (1, va1), (5, .int .i64 s3), (15, .bool (decide (s3 < (p1b.length : Int))))]) rfl ?_)))))
    clear A13 S13 a13 w13;intro a15 w15 A15 S15
    refine nrm ?_
    rcases two (decide (s3 < (p1b.length : Int))) with hb10 | hb10
    · replace hm := ifFe hb10 hm
      refine cnd_false (b := decide (s3 < (p1b.length : Int))) A15 rfl rfl hb10 ?_
      exact wp_exit (thenX (thenX (ex_in (nrm (⟨_, loopBrk hm hf1, ⟨A15.pick' ⟨rfl, rfl, trivial⟩, St.sel S15 1 [0] rfl rfl⟩⟩)))))
    replace hm := ifTe hb10 hm
    refine cnd_true (b := decide (s3 < (p1b.length : Int))) A15 rfl rfl hb10 ?_
    refine wp_skip (nrm (wp_seq (wp_block (wp_seq (wp_seq ?_)))))
    obtain ⟨x9, e9, hm⟩ := bind_some hm
    obtain ⟨x10, e10, hm⟩ := bind_some hm
    refine wp_draw (L := [(0, va0), (1, va1), (5, .int .i64 s3), (15, .bool (decide (s3 < (p1b.length : Int))))]) (C := [F]) { ops := [⟨[], [], [], [0], fun | [xo0] => xo0 = va0 | _ => True, [(0, none)]⟩, ⟨[], [], [], [1], fun | [xo1] => xo1 = .int .i64 s3 | _ => True, [(5, none)]⟩, ⟨[], [], [], [2], fun | [xo2] => xo2 = pt va0 (s3.toNat * 1) | _ => True, [(18, some 0), (19, some 1)]⟩, ⟨[], [], [], [3], fun | [xo3] => xo3 = .int .i64 x9 | _ => True, [(20, some 2)]⟩, ⟨[], [], [], [4], fun | [xo4] => xo4 = va1 | _ => True, [(1, none)]⟩, ⟨[], [], [], [5], fun | [xo5] => xo5 = .int .i64 s3 | _ => True, [(5, none)]⟩, ⟨[], [], [], [6], fun | [xo6] => xo6 = pt va1 (s3.toNat * 1) | _ => True, [(22, some 4), (23, some 5)]⟩, ⟨[], [], [], [7], fun | [xo7] => xo7 = .int .i64 x10 | _ => True, [(24, some 6)]⟩, ⟨[], [], [], [8], fun | [xo8] => xo8 = .bool (decide (x9 < x10)) | _ => True, [(21, some 3), (25, some 7)]⟩], res := [], base := [], pre := [[], [], [0, 1], [0, 1, 2], [], [], [4, 5], [4, 5, 6], [0, 1, 2, 3, 4, 5, 6, 7]], fin := [(0, none), (1, none), (5, none), (26, some 8)], left := [] } (by kernel_rfl) A15 S15 (perm_sel [0] (m := 1) rfl rfl) (by kernel_rfl) (by kernel_rfl) ?_ ?_
    · exact ⟨Plan.goal_run fun vs hf => ⟨wants_none rfl, OpT.conv (OpT.evs (ev' := evL [(0, va0)]) (opT_move (v := va0) rfl rfl) rfl [.tmp 0] rfl ⟨rfl, trivial⟩) rfl (fun _ h => Eq.trans h rfl) (fun _ => rfl)⟩, Plan.goal_run fun vs hf => ⟨wants_none rfl, OpT.conv (OpT.evs (ev' := evL [(5, .int .i64 s3)]) (opT_move (v := .int .i64 s3) rfl rfl) rfl [.tmp 5] rfl ⟨rfl, trivial⟩) rfl (fun _ h => Eq.trans h rfl) (fun _ => rfl)⟩, Plan.goal_run fun vs hf => ⟨wants_none rfl, OpT.conv (OpT.evs (ev' := evL [(18, va0), (19, .int .i64 s3)]) (opT_index_hd (xs := p0a) (i := s3) (n := 1) (Hd.of_rd ra0) Try.underlying34 ti3 rfl rfl rfl (getI_in e9)) rfl [.tmp 18, .tmp 19] rfl ⟨(hf 0 (mb rfl)), (hf 1 (mb rfl)), trivial⟩) rfl (fun _ h => Eq.trans h rfl) (fun _ => rfl)⟩, Plan.goal_run fun vs hf => ⟨wants_none rfl, OpT.conv (OpT.evs (ev' := evL [(20, pt va0 (s3.toNat * 1))]) (opT_load_el (S := rInt) (xs := p0a) (a := x9) (i := s3) (k := 1) (off := 0) (f := fun (x : Int) => x) ra0 e9 Fld.self ti3 rfl rfl rfl rfl rfl) rfl [.tmp 20] rfl ⟨(hf 2 (mb rfl)), trivial⟩) rfl (fun _ h => lds_one h) (fun _ => rfl)⟩, Plan.goal_run fun vs hf => ⟨wants_none rfl, OpT.conv (OpT.evs (ev' := evL [(1, va1)]) (opT_move (v := va1) rfl rfl) rfl [.tmp 1] rfl ⟨rfl, trivial⟩) rfl (fun _ h => Eq.trans h rfl) (fun _ => rfl)⟩, Plan.goal_run fun vs hf => ⟨wants_none rfl, OpT.conv (OpT.evs (ev' := evL [(5, .int .i64 s3)]) (opT_move (v := .int .i64 s3) rfl rfl) rfl [.tmp 5] rfl ⟨rfl, trivial⟩) rfl (fun _ h => Eq.trans h rfl) (fun _ => rfl)⟩, Plan.goal_run fun vs hf => ⟨wants_none rfl, OpT.conv (OpT.evs (ev' := evL [(22, va1), (23, .int .i64 s3)]) (opT_index_hd (xs := p1b) (i := s3) (n := 1) (Hd.of_rd ra1) Try.underlying34 ti3 rfl rfl rfl (getI_in e10)) rfl [.tmp 22, .tmp 23] rfl ⟨(hf 4 (mb rfl)), (hf 5 (mb rfl)), trivial⟩) rfl (fun _ h => Eq.trans h rfl) (fun _ => rfl)⟩, Plan.goal_run fun vs hf => ⟨wants_none rfl, OpT.conv (OpT.evs (ev' := evL [(24, pt va1 (s3.toNat * 1))]) (opT_load_el (S := rInt) (xs := p1b) (a := x10) (i := s3) (k := 1) (off := 0) (f := fun (x : Int) => x) ra1 e10 Fld.self ti3 rfl rfl rfl rfl rfl) rfl [.tmp 24] rfl ⟨(hf 6 (mb rfl)), trivial⟩) rfl (fun _ h => lds_one h) (fun _ => rfl)⟩, Plan.goal_run fun vs hf => ⟨wants_none rfl, OpT.conv (OpT.evs (ev' := evL [(21, .int .i64 x9), (25, .int .i64 x10)]) (opT_cmp (k := .i64) (m := x9) (n := x10) (c := decide (x9 < x10)) rfl rfl rfl rfl rfl) rfl [.tmp 21, .tmp 25] rfl ⟨(hf 3 (mb rfl)), (hf 7 (mb rfl)), trivial⟩) rfl (fun _ h => Eq.trans h rfl) (fun _ => rfl)⟩, trivial⟩
    intro vs a16 w16 hf A16 S16
    clear A15 S15
    replace A16 := A16.pick' (L' := [(0, va0), (1, va1), (5, .int .i64 s3), (26, .bool (decide (x9 < x10)))]) ⟨rfl, rfl, rfl, (congrArg some (show _ = _ from (hf 8 (Nat.le_of_ble_eq_true rfl)))), trivial⟩
    replace S16 : St I w0 w16 [F] := S16
    clear hf vs
    refine nrm ?_
    rcases two (decide (x9 < x10)) with hb11 | hb11
    · replace hm := ifFe hb11 hm
      refine cnd_false (b := decide (x9 < x10)) A16 rfl rfl hb11 ?_
      refine wp_skip (nrm (wp_seq ?_))
      obtain ⟨x11, e11, hm⟩ := bind_some hm
      obtain ⟨x12, e12, hm⟩ := bind_some hm
      refine wp_draw (L := [(0, va0), (1, va1), (5, .int .i64 s3), (26, .bool (decide (x9 < x10)))]) (C := [F]) { ops := [⟨[], [], [], [0], fun | [xo0] => xo0 = va0 | _ => True, [(0, none)]⟩, ⟨[], [], [], [1], fun | [xo1] => xo1 = .int .i64 s3 | _ => True, [(5, none)]⟩, ⟨[], [], [], [2], fun | [xo2] => xo2 = pt va0 (s3.toNat * 1) | _ => True, [(27, some 0), (28, some 1)]⟩, ⟨[], [], [], [3], fun | [xo3] => xo3 = .int .i64 x11 | _ => True, [(29, some 2)]⟩, ⟨[], [], [], [4], fun | [xo4] => xo4 = va1 | _ => True, [(1, none)]⟩, ⟨[], [], [], [5], fun | [xo5] => xo5 = .int .i64 s3 | _ => True, [(5, none)]⟩, ⟨[], [], [], [6], fun | [xo6] => xo6 = pt va1 (s3.toNat * 1) | _ => True, [(31, some 4), (32, some 5)]⟩, ⟨[], [], [], [7], fun | [xo7] => xo7 = .int .i64 x12 | _ => True, [(33, some 6)]⟩, ⟨[], [], [], [8], fun | [xo8] => xo8 = .bool (decide (x11 > x12)) | _ => True, [(30, some 3), (34, some 7)]⟩], res := [], base := [], pre := [[], [], [0, 1], [0, 1, 2], [], [], [4, 5], [4, 5, 6], [0, 1, 2, 3, 4, 5, 6, 7]], fin := [(0, none), (1, none), (5, none), (35, some 8)], left := [] } (by kernel_rfl) A16 S16 (perm_sel [0] (m := 1) rfl rfl) (by kernel_rfl) (by kernel_rfl) ?_ ?_
      · exact ⟨Plan.goal_run fun vs hf => ⟨wants_none rfl, OpT.conv (OpT.evs (ev' := evL [(0, va0)]) (opT_move (v := va0) rfl rfl) rfl [.tmp 0] rfl ⟨rfl, trivial⟩) rfl (fun _ h => Eq.trans h rfl) (fun _ => rfl)⟩, Plan.goal_run fun vs hf => ⟨wants_none rfl, OpT.conv (OpT.evs (ev' := evL [(5, .int .i64 s3)]) (opT_move (v := .int .i64 s3) rfl rfl) rfl [.tmp 5] rfl ⟨rfl, trivial⟩) rfl (fun _ h => Eq.trans h rfl) (fun _ => rfl)⟩, Plan.goal_run fun vs hf => ⟨wants_none rfl, OpT.conv (OpT.evs (ev' := evL [(27, va0), (28, .int .i64 s3)]) (opT_index_hd (xs := p0a) (i := s3) (n := 1) (Hd.of_rd ra0) Try.underlying34 ti3 rfl rfl rfl (getI_in e11)) rfl [.tmp 27, .tmp 28] rfl ⟨(hf 0 (mb rfl)), (hf 1 (mb rfl)), trivial⟩) rfl (fun _ h => Eq.trans h rfl) (fun _ => rfl)⟩, Plan.goal_run fun vs hf => ⟨wants_none rfl, OpT.conv (OpT.evs (ev' := evL [(29, pt va0 (s3.toNat * 1))]) (opT_load_el (S := rInt) (xs := p0a) (a := x11) (i := s3) (k := 1) (off := 0) (f := fun (x : Int) => x) ra0 e11 Fld.self ti3 rfl rfl rfl rfl rfl) rfl [.tmp 29] rfl ⟨(hf 2 (mb rfl)), trivial⟩) rfl (fun _ h => lds_one h) (fun _ => rfl)⟩, Plan.goal_run fun vs hf => ⟨wants_none rfl, OpT.conv (OpT.evs (ev' := evL [(1, va1)]) (opT_move (v := va1) rfl rfl) rfl [.tmp 1] rfl ⟨rfl, trivial⟩) rfl (fun _ h => Eq.trans h rfl) (fun _ => rfl)⟩, Plan.goal_run fun vs hf => ⟨wants_none rfl, OpT.conv (OpT.evs (ev' := evL [(5, .int .i64 s3)]) (opT_move (v := .int .i64 s3) rfl rfl) rfl [.tmp 5] rfl ⟨rfl, trivial⟩) rfl (fun _ h => Eq.trans h rfl) (fun _ => rfl)⟩, Plan.goal_run fun vs hf => ⟨wants_none rfl, OpT.conv (OpT.evs (ev' := evL [(31, va1), (32, .int .i64 s3)]) (opT_index_hd (xs := p1b) (i := s3) (n := 1) (Hd.of_rd ra1) Try.underlying34 ti3 rfl rfl rfl (getI_in e12)) rfl [.tmp 31, .tmp 32] rfl ⟨(hf 4 (mb rfl)), (hf 5 (mb rfl)), trivial⟩) rfl (fun _ h => Eq.trans h rfl) (fun _ => rfl)⟩, Plan.goal_run fun vs hf => ⟨wants_none rfl, OpT.conv (OpT.evs (ev' := evL [(33, pt va1 (s3.toNat * 1))]) (opT_load_el (S := rInt) (xs := p1b) (a := x12) (i := s3) (k := 1) (off := 0) (f := fun (x : Int) => x) ra1 e12 Fld.self ti3 rfl rfl rfl rfl rfl) rfl [.tmp 33] rfl ⟨(hf 6 (mb rfl)), trivial⟩) rfl (fun _ h => lds_one h) (fun _ => rfl)⟩, Plan.goal_run fun vs hf => ⟨wants_none rfl, OpT.conv (OpT.evs (ev' := evL [(30, .int .i64 x11), (34, .int .i64 x12)]) (opT_cmp (k := .i64) (m := x11) (n := x12) (c := decide (x11 > x12)) rfl rfl rfl rfl rfl) rfl [.tmp 30, .tmp 34] rfl ⟨(hf 3 (mb rfl)), (hf 7 (mb rfl)), trivial⟩) rfl (fun _ h => Eq.trans h rfl) (fun _ => rfl)⟩, trivial⟩
      intro vs a17 w17 hf A17 S17
      clear A16 S16
      replace A17 := A17.pick' (L' := [(0, va0), (1, va1), (5, .int .i64 s3), (35, .bool (decide (x11 > x12)))]) ⟨rfl, rfl, rfl, (congrArg some (show _ = _ from (hf 8 (Nat.le_of_ble_eq_true rfl)))), trivial⟩
      replace S17 : St I w0 w17 [F] := S17
      clear hf vs
      refine nrm ?_
      rcases two (decide (x11 > x12)) with hb12 | hb12
      · replace hm := ifFe hb12 hm
        refine cnd_false (b := decide (x11 > x12)) A17 rfl rfl hb12 ?_
        refine wp_skip (nrmB (nrm (wp_region_lit (rn A17 S17 (sv (opT_move (v := .int .i64 s3) rfl rfl) rfl rfl (sv (opT_add (m := s3) (n := 1) rfl rfl rfl) rfl rfl (sv (opT_assign (v := .int .i64 (IntKind.i64.wrap (s3 + 1))) rfl rfl) rfl rfl (enR (L' := [(0, va0), (1, va1), (5, .int .i64 (IntKind.i64.wrap (s3 + 1)))]) rfl ?_))))))))
        clear A17 S17 a17 w17;intro a18 w18 A18 S18
        exact nrm (⟨_, (Option.some.inj hm).symm, ⟨A18.pick' ⟨rfl, rfl, rfl, trivial⟩, St.sel S18 1 [0] rfl rfl⟩⟩)
      replace hm := ifTe hb12 hm
      refine cnd_true (b := decide (x11 > x12)) A17 rfl rfl hb12 ?_
      refine wp_seq (wp_region_lit (rn A17 S17 (sv (opT_assign (v := .int .i64 1) rfl rfl) rfl rfl (enR (L' := [(4, .int .i64 1)]) rfl ?_))))
      clear A17 S17 a17 w17;intro a19 w19 A19 S19
      refine nrm (wp_ret (blkR (thenR (thenR (blkR (thenR (thenR ?_)))))))
      replace hm := loopRet hm hf1 hc1
      obtain rfl := Option.some.inj hm
      exact ret_1 A19 rfl (res_tmp A19 rfl) ⟨_, rfl, rfl, _, Hp.le.rfl, St.sel (S19) 1 [0] rfl rfl⟩
    replace hm := ifTe hb11 hm
    refine cnd_true (b := decide (x9 < x10)) A16 rfl rfl hb11 ?_
    refine wp_seq (wp_region_lit (rn A16 S16 (sv (opT_assign (v := .int .i64 (-1)) rfl rfl) rfl rfl (enR (L' := [(4, .int .i64 (-1))]) rfl ?_))))
    clear A16 S16 a16 w16;intro a20 w20 A20 S20
    refine nrm (wp_ret (thenR (blkR (thenR (thenR (blkR (thenR (thenR ?_))))))))
    replace hm := loopRet hm hf1 hc1
    obtain rfl := Option.some.inj hm
    exact ret_1 A20 rfl (res_tmp A20 rfl) ⟨_, rfl, rfl, _, Hp.le.rfl, St.sel (S20) 1 [0] rfl rfl⟩
  rintro a21 w21 ⟨s4, ho1, A21, S21⟩
  replace hm := loopOut ho1 hc1
  clear ho1 hc1 hl1
  refine nrm (wp_seq (wp_seq (wp_region_lit (rn A21 S21 (sv (opT_move (v := va0) rfl rfl) rfl rfl (sv (opT_len_hd (v := va0) (n := p0a.length) (Hd.of_rd ra0) Try.underlying34 rfl rfl) rfl rfl (sv (opT_move (v := va1) rfl rfl) rfl rfl (sv (opT_len_hd (v := va1) (n := p1b.length) (Hd.of_rd ra1) Try.underlying34 rfl rfl) rfl rfl (sv (opT_cmp (k := .i64) (m := (p0a.length : Int)) (n := (p1b.length : Int)) (c := decide ((p0a.length : Int) < (p1b.length : Int))) rfl rfl rfl rfl rfl) rfl rfl (enR (L' := [(0, va0), (1, va1), (40, .bool (decide ((p0a.length : Int) < (p1b.length : Int))))]) rfl ?_))))))))))
  clear A21 S21 a21 w21;intro a22 w22 A22 S22
  refine nrm ?_
  rcases two (decide ((p0a.length : Int) < (p1b.length : Int))) with hb13 | hb13
  · replace hm := ifFe hb13 hm
    refine cnd_false (b := decide ((p0a.length : Int) < (p1b.length : Int))) A22 rfl rfl hb13 ?_
    refine wp_skip (nrm (wp_seq (wp_seq (wp_region_lit (rn A22 S22 (sv (opT_move (v := va0) rfl rfl) rfl rfl (sv (opT_len_hd (v := va0) (n := p0a.length) (Hd.of_rd ra0) Try.underlying34 rfl rfl) rfl rfl (sv (opT_move (v := va1) rfl rfl) rfl rfl (sv (opT_len_hd (v := va1) (n := p1b.length) (Hd.of_rd ra1) Try.underlying34 rfl rfl) rfl rfl (sv (opT_cmp (k := .i64) (m := (p0a.length : Int)) (n := (p1b.length : Int)) (c := decide ((p0a.length : Int) > (p1b.length : Int))) rfl rfl rfl rfl rfl) rfl rfl (enR (L' := [(45, .bool (decide ((p0a.length : Int) > (p1b.length : Int))))]) rfl ?_)))))))))))
    clear A22 S22 a22 w22;intro a23 w23 A23 S23
    refine nrm ?_
    rcases two (decide ((p0a.length : Int) > (p1b.length : Int))) with hb14 | hb14
    · replace hm := ifFe hb14 hm
      refine cnd_false (b := decide ((p0a.length : Int) > (p1b.length : Int))) A23 rfl rfl hb14 ?_
      refine wp_skip (nrm (wp_seq (wp_region_lit (rn A23 S23 (sv (opT_assign (v := .int .i64 0) rfl rfl) rfl rfl (enR (L' := [(4, .int .i64 0)]) rfl ?_))))))
      clear A23 S23 a23 w23;intro a24 w24 A24 S24
      refine nrm (wp_ret ?_)
      obtain rfl := Option.some.inj hm
      exact ret_1 A24 rfl (res_tmp A24 rfl) ⟨_, rfl, rfl, _, Hp.le.rfl, St.sel (S24) 1 [0] rfl rfl⟩
    replace hm := ifTe hb14 hm
    refine cnd_true (b := decide ((p0a.length : Int) > (p1b.length : Int))) A23 rfl rfl hb14 ?_
    refine wp_seq (wp_region_lit (rn A23 S23 (sv (opT_assign (v := .int .i64 1) rfl rfl) rfl rfl (enR (L' := [(4, .int .i64 1)]) rfl ?_))))
    clear A23 S23 a23 w23;intro a25 w25 A25 S25
    refine nrm (wp_ret (thenR ?_))
    obtain rfl := Option.some.inj hm
    exact ret_1 A25 rfl (res_tmp A25 rfl) ⟨_, rfl, rfl, _, Hp.le.rfl, St.sel (S25) 1 [0] rfl rfl⟩
  replace hm := ifTe hb13 hm
  refine cnd_true (b := decide ((p0a.length : Int) < (p1b.length : Int))) A22 rfl rfl hb13 ?_
  refine wp_seq (wp_region_lit (rn A22 S22 (sv (opT_assign (v := .int .i64 (-1)) rfl rfl) rfl rfl (enR (L' := [(4, .int .i64 (-1))]) rfl ?_))))
  clear A22 S22 a22 w22;intro a26 w26 A26 S26
  refine nrm (wp_ret (thenR ?_))
  obtain rfl := Option.some.inj hm
  exact ret_1 A26 rfl (res_tmp A26 rfl) ⟨_, rfl, rfl, _, Hp.le.rfl, St.sel (S26) 1 [0] rfl rfl⟩
theorem c_g_math_bits_Mul64 (p0x : Int) (p1y : Int) (r : Int × Int) (hm : m_g_math_bits_Mul64 p0x p1y = some r) {I : Hp} {w0 : World} : Con Try.prog 188 #[.int .u64 p0x, .int .u64 p1y] I w0 [] (fun v => v = .tuple #[.int .u64 r.1, .int .u64 r.2]) (fun v => []) := by
  refine con_of_wp (n := 51) [(0, .int .u64 p0x), (1, .int .u64 p1y)] Try.func188 rfl rfl (Nat.le_of_ble_eq_true rfl) (args_all ⟨rfl, rfl, trivial⟩) (fun F w a ha hs => ?_) (fun v => trivial)
  unfold m_g_math_bits_Mul64 at hm
  refine wp_seq (wp_region_lit (rn ha hs (sv (opT_assign (v := .int .u64 0) rfl rfl) rfl rfl (sv (opT_assign (v := .int .u64 0) rfl rfl) rfl rfl (enR (L' := [(0, .int .u64 p0x), (1, .int .u64 p1y)]) rfl ?_)))))
  clear ha hs a w;intro a1 w1 A1 S1
  refine nrm (wp_seq (wp_region_lit (rn A1 S1 (sv (opT_move (v := .int .u64 p0x) rfl rfl) rfl rfl (sv (opU_and (m := p0x) (n := 4294967295) rfl rfl rfl) rfl rfl (sv (opT_assign (v := .int .u64 (andU p0x 4294967295)) rfl rfl) rfl rfl (enR (L' := [(0, .int .u64 p0x), (1, .int .u64 p1y), (6, .int .u64 (andU p0x 4294967295))]) rfl ?_)))))))
  clear A1 S1 a1 w1;intro a2 w2 A2 S2
  refine nrm (wp_seq (wp_region_lit (rn A2 S2 (sv (opT_move (v := .int .u64 p0x) rfl rfl) rfl rfl (sv (opU_shr (m := p0x) (n := 32) rfl rfl rfl (by decide)) rfl rfl (sv (opT_assign (v := .int .u64 (shrI p0x 32)) rfl rfl) rfl rfl (enR (L' := [(0, .int .u64 p0x), (1, .int .u64 p1y), (6, .int .u64 (andU p0x 4294967295)), (7, .int .u64 (shrI p0x 32))]) rfl ?_)))))))
  clear A2 S2 a2 w2;intro a3 w3 A3 S3
  refine nrm (wp_seq (wp_region_lit (rn A3 S3 (sv (opT_move (v := .int .u64 p1y) rfl rfl) rfl rfl (sv (opU_and (m := p1y) (n := 4294967295) rfl rfl rfl) rfl rfl (sv (opT_assign (v := .int .u64 (andU p1y 4294967295)) rfl rfl) rfl rfl (enR (L' := [(0, .int .u64 p0x), (1, .int .u64 p1y), (6, .int .u64 (andU p0x 4294967295)), (7, .int .u64 (shrI p0x 32)), (8, .int .u64 (andU p1y 4294967295))]) rfl ?_)))))))
  clear A3 S3 a3 w3;intro a4 w4 A4 S4
  refine nrm (wp_seq (wp_region_lit (rn A4 S4 (sv (opT_move (v := .int .u64 p1y) rfl rfl) rfl rfl (sv (opU_shr (m := p1y) (n := 32) rfl rfl rfl (by decide)) rfl rfl (sv (opT_assign (v := .int .u64 (shrI p1y 32)) rfl rfl) rfl rfl (enR (L' := [(0, .int .u64 p0x), (1, .int .u64 p1y), (6, .int .u64 (andU p0x 4294967295)), (7, .int .u64 (shrI p0x 32)), (8, .int .u64 (andU p1y 4294967295)), (9, .int .u64 (shrI p1y 32))]) rfl ?_)))))))
  clear A4 S4 a4 w4;intro a5 w5 A5 S5
  refine nrm (wp_seq (wp_region_lit (rn A5 S5 (sv (opT_move (v := .int .u64 (andU p0x 4294967295)) rfl rfl) rfl rfl (sv (opT_move (v := .int .u64 (andU p1y 4294967295)) rfl rfl) rfl rfl (sv (opU_mul (m := andU p0x 4294967295) (n := andU p1y 4294967295) rfl rfl rfl) rfl rfl (sv (opT_assign (v := .int .u64 (IntKind.u64.wrap ((andU p0x 4294967295) * (andU p1y 4294967295)))) rfl rfl) rfl rfl (enR (L' := [(0, .int .u64 p0x), (1, .int .u64 p1y), (6, .int .u64 (andU p0x 4294967295)), (7, .int .u64 (shrI p0x 32)), (8, .int .u64 (andU p1y 4294967295)), (9, .int .u64 (shrI p1y 32)), (10, .int .u64 (IntKind.u64.wrap ((andU p0x 4294967295) * (andU p1y 4294967295))))]) rfl ?_))))))))
  clear A5 S5 a5 w5;intro a6 w6 A6 S6
  refine nrm (wp_seq (wp_region_lit (rn A6 S6 (sv (opT_move (v := .int .u64 (shrI p0x 32)) rfl rfl) rfl rfl (sv (opT_move (v := .int .u64 (andU p1y 4294967295)) rfl rfl) rfl rfl (sv (opU_mul (m := shrI p0x 32) (n := andU p1y 4294967295) rfl rfl rfl) rfl rfl (sv (opT_move (v := .int .u64 (IntKind.u64.wrap ((andU p0x 4294967295) * (andU p1y 4294967295)))) rfl rfl) rfl rfl (sv (opU_shr (m := IntKind.u64.wrap ((andU p0x 4294967295) * (andU p1y 4294967295))) (n := 32) rfl rfl rfl (by decide)) rfl rfl (sv (opU_add (m := IntKind.u64.wrap ((shrI p0x 32) * (andU p1y 4294967295))) (n := shrI (IntKind.u64.wrap ((andU p0x 4294967295) * (andU p1y 4294967295))) 32) rfl rfl rfl) rfl rfl (sv (opT_assign (v := .int .u64 (IntKind.u64.wrap ((IntKind.u64.wrap ((shrI p0x 32) * (andU p1y 4294967295))) + (shrI (IntKind.u64.wrap ((andU p0x 4294967295) * (andU p1y 4294967295))) 32)))) rfl rfl) rfl rfl (enR (L' := [(0, .int .u64 p0x), (1, .int .u64 p1y), (6, .int .u64 (andU p0x 4294967295)), (7, .int .u64 (shrI p0x 32)), (9, .int .u64 (shrI p1y 32)), (11, .int .u64 (IntKind.u64.wrap ((IntKind.u64.wrap ((shrI p0x 32) * (andU p1y 4294967295))) + (shrI (IntKind.u64.wrap ((andU p0x 4294967295) * (andU p1y 4294967295))) 32))))]) rfl ?_)))))))))))
  clear A6 S6 a6 w6;intro a7 w7 A7 S7
  refine nrm (wp_seq (wp_region_lit (rn A7 S7 (sv (opT_move (v := .int .u64 (IntKind.u64.wrap ((IntKind.u64.wrap ((shrI p0x 32) * (andU p1y 4294967295))) + (shrI (IntKind.u64.wrap ((andU p0x 4294967295) * (andU p1y 4294967295))) 32)))) rfl rfl) rfl rfl (sv (opU_and (m := IntKind.u64.wrap ((IntKind.u64.wrap ((shrI p0x 32) * (andU p1y 4294967295))) + (shrI (IntKind.u64.wrap ((andU p0x 4294967295) * (andU p1y 4294967295))) 32))) (n := 4294967295) rfl rfl rfl) rfl rfl (sv (opT_assign (v := .int .u64 (andU (IntKind.u64.wrap ((IntKind.u64.wrap ((shrI p0x 32) * (andU p1y 4294967295))) + (shrI (IntKind.u64.wrap ((andU p0x 4294967295) * (andU p1y 4294967295))) 32))) 4294967295)) rfl rfl) rfl rfl (enR (L' := [(0, .int .u64 p0x), (1, .int .u64 p1y), (6, .int .u64 (andU p0x 4294967295)), (7, .int .u64 (shrI p0x 32)), (9, .int .u64 (shrI p1y 32)), (11, .int .u64 (IntKind.u64.wrap ((IntKind.u64.wrap ((shrI p0x 32) * (andU p1y 4294967295))) + (shrI (IntKind.u64.wrap ((andU p0x 4294967295) * (andU p1y 4294967295))) 32)))), (12, .int .u64 (andU (IntKind.u64.wrap ((IntKind.u64.wrap ((shrI p0x 32) * (andU p1y 4294967295))) + (shrI (IntKind.u64.wrap ((andU p0x 4294967295) * (andU p1y 4294967295))) 32))) 4294967295))]) rfl ?_)))))))
  clear A7 S7 a7 w7;intro a8 w8 A8 S8
  refine nrm (wp_seq (wp_region_lit (rn A8 S8 (sv (opT_move (v := .int .u64 (IntKind.u64.wrap ((IntKind.u64.wrap ((shrI p0x 32) * (andU p1y 4294967295))) + (shrI (IntKind.u64.wrap ((andU p0x 4294967295) * (andU p1y 4294967295))) 32)))) rfl rfl) rfl rfl (sv (opU_shr (m := IntKind.u64.wrap ((IntKind.u64.wrap ((shrI p0x 32) * (andU p1y 4294967295))) + (shrI (IntKind.u64.wrap ((andU p0x 4294967295) * (andU p1y 4294967295))) 32))) (n := 32) rfl rfl rfl (by decide)) rfl rfl (sv (opT_assign (v := .int .u64 (shrI (IntKind.u64.wrap ((IntKind.u64.wrap ((shrI p0x 32) * (andU p1y 4294967295))) + (shrI (IntKind.u64.wrap ((andU p0x 4294967295) * (andU p1y 4294967295))) 32))) 32)) rfl rfl) rfl rfl (enR (L' := [(0, .int .u64 p0x), (1, .int .u64 p1y), (6, .int .u64 (andU p0x 4294967295)), (7, .int .u64 (shrI p0x 32)), (9, .int .u64 (shrI p1y 32)), (12, .int .u64 (andU (IntKind.u64.wrap ((IntKind.u64.wrap ((shrI p0x 32) * (andU p1y 4294967295))) + (shrI (IntKind.u64.wrap ((andU p0x 4294967295) * (andU p1y 4294967295))) 32))) 4294967295)), (13, .int .u64 (shrI (IntKind.u64.wrap ((IntKind.u64.wrap ((shrI p0x 32) * (andU p1y 4294967295))) + (shrI (IntKind.u64.wrap ((andU p0x 4294967295) * (andU p1y 4294967295))) 32))) 32))]) rfl ?_)))))))
  clear A8 S8 a8 w8;intro a9 w9 A9 S9
  refine nrm (wp_seq (wp_region_lit (rn A9 S9 (sv (opT_move (v := .int .u64 (andU (IntKind.u64.wrap ((IntKind.u64.wrap ((shrI p0x 32) * (andU p1y 4294967295))) + (shrI (IntKind.u64.wrap ((andU p0x 4294967295) * (andU p1y 4294967295))) 32))) 4294967295)) rfl rfl) rfl rfl (sv (opT_move (v := .int .u64 (andU p0x 4294967295)) rfl rfl) rfl rfl (sv (opT_move (v := .int .u64 (shrI p1y 32)) rfl rfl) rfl rfl (sv (opU_mul (m := andU p0x 4294967295) (n := shrI p1y 32) rfl rfl rfl) rfl rfl (sv (opU_add (m := andU (IntKind.u64.wrap ((IntKind.u64.wrap ((shrI p0x 32) * (andU p1y 4294967295))) + (shrI (IntKind.u64.wrap ((andU p0x 4294967295) * (andU p1y 4294967295))) 32))) 4294967295) (n := IntKind.u64.wrap ((andU p0x 4294967295) * (shrI p1y 32))) rfl rfl rfl) rfl rfl (sv (opT_assign (v := .int .u64 (IntKind.u64.wrap ((andU (IntKind.u64.wrap ((IntKind.u64.wrap ((shrI p0x 32) * (andU p1y 4294967295))) + (shrI (IntKind.u64.wrap ((andU p0x 4294967295) * (andU p1y 4294967295))) 32))) 4294967295) + (IntKind.u64.wrap ((andU p0x 4294967295) * (shrI p1y 32)))))) rfl rfl) rfl rfl (enR (L' := [(0, .int .u64 p0x), (1, .int .u64 p1y), (7, .int .u64 (shrI p0x 32)), (9, .int .u64 (shrI p1y 32)), (12, .int .u64 (IntKind.u64.wrap ((andU (IntKind.u64.wrap ((IntKind.u64.wrap ((shrI p0x 32) * (andU p1y 4294967295))) + (shrI (IntKind.u64.wrap ((andU p0x 4294967295) * (andU p1y 4294967295))) 32))) 4294967295) + (IntKind.u64.wrap ((andU p0x 4294967295) * (shrI p1y 32)))))), (13, .int .u64 (shrI (IntKind.u64.wrap ((IntKind.u64.wrap ((shrI p0x 32) * (andU p1y 4294967295))) + (shrI (IntKind.u64.wrap ((andU p0x 4294967295) * (andU p1y 4294967295))) 32))) 32))]) rfl ?_))))))))))
  clear A9 S9 a9 w9;intro a10 w10 A10 S10
  refine nrm (wp_seq (wp_region_lit (rn A10 S10 (sv (opT_move (v := .int .u64 (shrI p0x 32)) rfl rfl) rfl rfl (sv (opT_move (v := .int .u64 (shrI p1y 32)) rfl rfl) rfl rfl (sv (opU_mul (m := shrI p0x 32) (n := shrI p1y 32) rfl rfl rfl) rfl rfl (sv (opT_move (v := .int .u64 (shrI (IntKind.u64.wrap ((IntKind.u64.wrap ((shrI p0x 32) * (andU p1y 4294967295))) + (shrI (IntKind.u64.wrap ((andU p0x 4294967295) * (andU p1y 4294967295))) 32))) 32)) rfl rfl) rfl rfl (sv (opU_add (m := IntKind.u64.wrap ((shrI p0x 32) * (shrI p1y 32))) (n := shrI (IntKind.u64.wrap ((IntKind.u64.wrap ((shrI p0x 32) * (andU p1y 4294967295))) + (shrI (IntKind.u64.wrap ((andU p0x 4294967295) * (andU p1y 4294967295))) 32))) 32) rfl rfl rfl) rfl rfl (sv (opT_move (v := .int .u64 (IntKind.u64.wrap ((andU (IntKind.u64.wrap ((IntKind.u64.wrap ((shrI p0x 32) * (andU p1y 4294967295))) + (shrI (IntKind.u64.wrap ((andU p0x 4294967295) * (andU p1y 4294967295))) 32))) 4294967295) + (IntKind.u64.wrap ((andU p0x 4294967295) * (shrI p1y 32)))))) rfl rfl) rfl rfl (sv (opU_shr (m := IntKind.u64.wrap ((andU (IntKind.u64.wrap ((IntKind.u64.wrap ((shrI p0x 32) * (andU p1y 4294967295))) + (shrI (IntKind.u64.wrap ((andU p0x 4294967295) * (andU p1y 4294967295))) 32))) 4294967295) + (IntKind.u64.wrap ((andU p0x 4294967295) * (shrI p1y 32))))) (n := 32) rfl rfl rfl (by decide)) rfl rfl (sv (opU_add (m := IntKind.u64.wrap ((IntKind.u64.wrap ((shrI p0x 32) * (shrI p1y 32))) + (shrI (IntKind.u64.wrap ((IntKind.u64.wrap ((shrI p0x 32) * (andU p1y 4294967295))) + (shrI (IntKind.u64.wrap ((andU p0x 4294967295) * (andU p1y 4294967295))) 32))) 32))) (n := shrI (IntKind.u64.wrap ((andU (IntKind.u64.wrap ((IntKind.u64.wrap ((shrI p0x 32) * (andU p1y 4294967295))) + (shrI (IntKind.u64.wrap ((andU p0x 4294967295) * (andU p1y 4294967295))) 32))) 4294967295) + (IntKind.u64.wrap ((andU p0x 4294967295) * (shrI p1y 32))))) 32) rfl rfl rfl) rfl rfl (sv (opT_assign (v := .int .u64 (IntKind.u64.wrap ((IntKind.u64.wrap ((IntKind.u64.wrap ((shrI p0x 32) * (shrI p1y 32))) + (shrI (IntKind.u64.wrap ((IntKind.u64.wrap ((shrI p0x 32) * (andU p1y 4294967295))) + (shrI (IntKind.u64.wrap ((andU p0x 4294967295) * (andU p1y 4294967295))) 32))) 32))) + (shrI (IntKind.u64.wrap ((andU (IntKind.u64.wrap ((IntKind.u64.wrap ((shrI p0x 32) * (andU p1y 4294967295))) + (shrI (IntKind.u64.wrap ((andU p0x 4294967295) * (andU p1y 4294967295))) 32))) 4294967295) + (IntKind.u64.wrap ((andU p0x 4294967295) * (shrI p1y 32))))) 32)))) rfl rfl) rfl rfl (enR (L' := [(0, .int .u64 p0x), (1, .int .u64 p1y), (4, .int .u64 (IntKind.u64.wrap ((IntKind.u64.wrap ((IntKind.u64.wrap ((shrI p0x 32) * (shrI p1y 32))) + (shrI (IntKind.u64.wrap ((IntKind.u64.wrap ((shrI p0x 32) * (andU p1y 4294967295))) + (shrI (IntKind.u64.wrap ((andU p0x 4294967295) * (andU p1y 4294967295))) 32))) 32))) + (shrI (IntKind.u64.wrap ((andU (IntKind.u64.wrap ((IntKind.u64.wrap ((shrI p0x 32) * (andU p1y 4294967295))) + (shrI (IntKind.u64.wrap ((andU p0x 4294967295) * (andU p1y 4294967295))) 32))) 4294967295) + (IntKind.u64.wrap ((andU p0x 4294967295) * (shrI p1y 32))))) 32))))]) rfl ?_)))))))))))))
  clear A10 S10 a10 w10;intro a11 w11 A11 S11
  refine nrm (wp_seq (wp_region_lit (rn A11 S11 (sv (opT_move (v := .int .u64 p0x) rfl rfl) rfl rfl (sv (opT_move (v := .int .u64 p1y) rfl rfl) rfl rfl (sv (opU_mul (m := p0x) (n := p1y) rfl rfl rfl) rfl rfl (sv (opT_assign (v := .int .u64 (IntKind.u64.wrap (p0x * p1y))) rfl rfl) rfl rfl (enR (L' := [(4, .int .u64 (IntKind.u64.wrap ((IntKind.u64.wrap ((IntKind.u64.wrap ((shrI p0x 32) * (shrI p1y 32))) + (shrI (IntKind.u64.wrap ((IntKind.u64.wrap ((shrI p0x 32) * (andU p1y 4294967295))) + (shrI (IntKind.u64.wrap ((andU p0x 4294967295) * (andU p1y 4294967295))) 32))) 32))) + (shrI (IntKind.u64.wrap ((andU (IntKind.u64.wrap ((IntKind.u64.wrap ((shrI p0x 32) * (andU p1y 4294967295))) + (shrI (IntKind.u64.wrap ((andU p0x 4294967295) * (andU p1y 4294967295))) 32))) 4294967295) + (IntKind.u64.wrap ((andU p0x 4294967295) * (shrI p1y 32))))) 32)))), (5, .int .u64 (IntKind.u64.wrap (p0x * p1y)))]) rfl ?_))))))))
  clear A11 S11 a11 w11;intro a12 w12 A12 S12
  refine nrm (wp_ret ?_)
  obtain rfl := Option.some.inj hm
  exact ret_2 A12 rfl (res_tmp A12 rfl) (res_tmp A12 rfl) ⟨_, rfl, rfl, _, Hp.le.rfl, St.sel (S12) 1 [0] rfl rfl⟩
theorem c_g_slices_Equal_S_int_int (p0s1 : List Int) (p1s2 : List Int) (r : Bool) (hm : m_g_slices_Equal_S_int_int p0s1 p1s2 = some r) {I : Hp} {w0 : World} (va0 : Value) (va1 : Value) (ra0 : (rSlice 3 rInt).rd I [va0] p0s1) (ra1 : (rSlice 3 rInt).rd I [va1] p1s2) : Con Try.prog 109 #[va0, va1] I w0 [] (fun v => v = .bool r) (fun v => []) := by
  refine con_of_wp (n := 26) [(0, va0), (1, va1)] Try.func109 rfl rfl (Nat.le_of_ble_eq_true rfl) (args_all ⟨rfl, rfl, trivial⟩) (fun F w a ha hs => ?_) (fun v => trivial)
  unfold m_g_slices_Equal_S_int_int at hm
  refine wp_seq (wp_region_lit (rn ha hs (sv (opT_assign (v := .bool false) rfl rfl) rfl rfl (enR (L' := [(0, va0), (1, va1)]) rfl ?_))))
  clear ha hs a w;intro a1 w1 A1 S1
  refine nrm (wp_seq (wp_seq (wp_region_lit (rn A1 S1 (sv (opT_move (v := va0) rfl rfl) rfl rfl (sv (opT_len_hd (v := va0) (n := p0s1.length) (Hd.of_rd ra0) Try.underlying34 rfl rfl) rfl rfl (sv (opT_move (v := va1) rfl rfl) rfl rfl (sv (opT_len_hd (v := va1) (n := p1s2.length) (Hd.of_rd ra1) Try.underlying34 rfl rfl) rfl rfl (sv (opT_cmp (k := .i64) (m := (p0s1.length : Int)) (n := (p1s2.length : Int)) (c := (p0s1.length : Int) != (p1s2.length : Int)) rfl rfl rfl rfl rfl) rfl rfl (enR (L' := [(0, va0), (1, va1), (10, .bool ((p0s1.length : Int) != (p1s2.length : Int)))]) rfl ?_))))))))))
  clear A1 S1 a1 w1;intro a2 w2 A2 S2
  refine nrm ?_
  rcases two ((p0s1.length : Int) != (p1s2.length : Int)) with hb1 | hb1
  · replace hm := ifFe hb1 hm
    refine cnd_false (b := (p0s1.length : Int) != (p1s2.length : Int)) A2 rfl rfl hb1 ?_
    refine wp_skip (nrm (wp_seq (wp_seq (wp_region_lit (rn A2 S2 (sv (opT_move (v := va0) rfl rfl) rfl rfl (sv (opT_len_hd (v := va0) (n := p0s1.length) (Hd.of_rd ra0) Try.underlying34 rfl rfl) rfl rfl (sv (opT_move (v := .int .i64 0) rfl rfl) rfl rfl (enR (L' := [(0, va0), (1, va1), (12, .int .i64 (p0s1.length : Int)), (13, .int .i64 0)]) rfl ?_)))))))))
    clear A2 S2 a2 w2;intro a3 w3 A3 S3
    refine nrm ?_
    obtain ⟨o1, hl1, hc1⟩ := bindL_some hm
    refine wp_cut (fun a w => ∃ s4 : Int, o1 = .brk s4 ∧ Agr 26 a [] ∧ St I w0 w [F]) ?_ ?_
    · refine wp_block (wp_loopM (R := Bool) (S := Int) (fun s3 a w => Agr 26 a [(0, va0), (1, va1), (12, .int .i64 (p0s1.length : Int)), (13, .int .i64 s3)] ∧ St I w0 w [F]) hl1 ?_ ?_)
      · exact ⟨A3.pick' ⟨rfl, rfl, rfl, rfl, trivial⟩, St.sel S3 1 [0] rfl rfl⟩
      rintro s3 o2 hm hf1 a12 w12 ⟨A12, S12⟩
      unfold m_g_slices_Equal_S_int_int_l0 at hm
      refine wp_seq (wp_region_lit (rn A12 S12 (sv (opT_cmp (k := .i64) (m := s3) (n := (p0s1.length : Int)) (c := decide (s3 < (p0s1.length : Int))) rfl rfl rfl rfl rfl) rfl rfl (enR (L' := [(0, va0), (1, va1), (12, .int .i64 (p0s1.length : Int)), (13, .int .i64 s3), (14, .bool (decide (s3 < (p0s1.length : Int))))]) rfl ?_))))
      clear A12 S12 a12 w12;intro a13 w13 A13 S13
      refine nrm (wp_seq ?_)
      rcases two (decide (s3 < (p0s1.length : Int))) with hb6 | hb6
      · replace hm := ifFe hb6 hm
        refine cnd_false (b := decide (s3 < (p0s1.length : Int))) A13 rfl rfl hb6 ?_
        exact wp_exit (thenX (thenX (ex_in (nrm (⟨_, loopBrk hm hf1, ⟨A13.pick' trivial, St.sel S13 1 [0] rfl rfl⟩⟩)))))
      replace hm := ifTe hb6 hm
      refine cnd_true (b := decide (s3 < (p0s1.length : Int))) A13 rfl rfl hb6 ?_
      refine wp_skip (nrm (wp_seq (wp_block (wp_seq (wp_region_lit (rn A13 S13 (sv (opT_move (v := .int .i64 s3) rfl rfl) rfl rfl (sv (opT_assign (v := .int .i64 s3) rfl rfl) rfl rfl (enR (L' := [(0, va0), (1, va1), (5, .int .i64 s3), (12, .int .i64 (p0s1.length : Int)), (13, .int .i64 s3)]) rfl ?_)))))))))
      clear A13 S13 a13 w13;intro a14 w14 A14 S14
      refine nrm (wp_seq ?_)
      obtain ⟨x5, e5, hm⟩ := bind_some hm
      obtain ⟨x6, e6, hm⟩ := bind_some hm
      refine wp_draw (L := [(0, va0), (1, va1), (5, .int .i64 s3), (12, .int .i64 (p0s1.length : Int)), (13, .int .i64 s3)]) (C := [F]) { ops := [⟨[], [], [], [0], fun | [xo0] => xo0 = va0 | _ => True, [(0, none)]⟩, ⟨[], [], [], [1], fun | [xo1] => xo1 = .int .i64 s3 | _ => True, [(5, none)]⟩, ⟨[], [], [], [2], fun | [xo2] => xo2 = pt va0 (s3.toNat * 1) | _ => True, [(16, some 0), (17, some 1)]⟩, ⟨[], [], [], [3], fun | [xo3] => xo3 = .int .i64 x5 | _ => True, [(18, some 2)]⟩, ⟨[], [], [], [4], fun | [xo4] => xo4 = va1 | _ => True, [(1, none)]⟩, ⟨[], [], [], [5], fun | [xo5] => xo5 = .int .i64 s3 | _ => True, [(5, none)]⟩, ⟨[], [], [], [6], fun | [xo6] => xo6 = pt va1 (s3.toNat * 1) | _ => True, [(20, some 4), (21, some 5)]⟩, ⟨[], [], [], [7], fun | [xo7] => xo7 = .int .i64 x6 | _ => True, [(22, some 6)]⟩, ⟨[], [], [], [8], fun | [xo8] => xo8 = .bool (x5 != x6) | _ => True, [(19, some 3), (23, some 7)]⟩], res := [], base := [], pre := [[], [], [0, 1], [0, 1, 2], [], [], [4, 5], [4, 5, 6], [0, 1, 2, 3, 4, 5, 6, 7]], fin := [(0, none), (1, none), (12, none), (13, none), (24, some 8)], left := [] } (by kernel_rfl) A14 S14 (perm_sel [0] (m := 1) rfl rfl) (by kernel_rfl) (by kernel_rfl) ?_ ?_
      · exact ⟨Plan.goal_run fun vs hf => ⟨wants_none rfl, OpT.conv (OpT.evs (ev' := evL [(0, va0)]) (opT_move (v := va0) rfl rfl) rfl [.tmp 0] rfl ⟨rfl, trivial⟩) rfl (fun _ h => Eq.trans h rfl) (fun _ => rfl)⟩, Plan.goal_run fun vs hf => ⟨wants_none rfl, OpT.conv (OpT.evs (ev' := evL [(5, .int .i64 s3)]) (opT_move (v := .int .i64 s3) rfl rfl) rfl [.tmp 5] rfl ⟨rfl, trivial⟩) rfl (fun _ h => Eq.trans h rfl) (fun _ => rfl)⟩, Plan.goal_run fun vs hf => ⟨wants_none rfl, OpT.conv (OpT.evs (ev' := evL [(16, va0), (17, .int .i64 s3)]) (opT_index_hd (xs := p0s1) (i := s3) (n := 1) (Hd.of_rd ra0) Try.underlying34 ti3 rfl rfl rfl (getI_in e5)) rfl [.tmp 16, .tmp 17] rfl ⟨(hf 0 (mb rfl)), (hf 1 (mb rfl)), trivial⟩) rfl (fun _ h => Eq.trans h rfl) (fun _ => rfl)⟩, Plan.goal_run fun vs hf => ⟨wants_none rfl, OpT.conv (OpT.evs (ev' := evL [(18, pt va0 (s3.toNat * 1))]) (opT_load_el (S := rInt) (xs := p0s1) (a := x5) (i := s3) (k := 1) (off := 0) (f := fun (x : Int) => x) ra0 e5 Fld.self ti3 rfl rfl rfl rfl rfl) rfl [.tmp 18] rfl ⟨(hf 2 (mb rfl)), trivial⟩) rfl (fun _ h => lds_one h) (fun _ => rfl)⟩, Plan.goal_run fun vs hf => ⟨wants_none rfl, OpT.conv (OpT.evs (ev' := evL [(1, va1)]) (opT_move (v := va1) rfl rfl) rfl [.tmp 1] rfl ⟨rfl, trivial⟩) rfl (fun _ h => Eq.trans h rfl) (fun _ => rfl)⟩, Plan.goal_run fun vs hf => ⟨wants_none rfl, OpT.conv (OpT.evs (ev' := evL [(5, .int .i64 s3)]) (opT_move (v := .int .i64 s3) rfl rfl) rfl [.tmp 5] rfl ⟨rfl, trivial⟩) rfl (fun _ h => Eq.trans h rfl) (fun _ => rfl)⟩, Plan.goal_run fun vs hf => ⟨wants_none rfl, OpT.conv (OpT.evs (ev' := evL [(20, va1), (21, .int .i64 s3)]) (opT_index_hd (xs := p1s2) (i := s3) (n := 1) (Hd.of_rd ra1) Try.underlying34 ti3 rfl rfl rfl (getI_in e6)) rfl [.tmp 20, .tmp 21] rfl ⟨(hf 4 (mb rfl)), (hf 5 (mb rfl)), trivial⟩) rfl (fun _ h => Eq.trans h rfl) (fun _ => rfl)⟩, Plan.goal_run fun vs hf => ⟨wants_none rfl, OpT.conv (OpT.evs (ev' := evL [(22, pt va1 (s3.toNat * 1))]) (opT_load_el (S := rInt) (xs := p1s2) (a := x6) (i := s3) (k := 1) (off := 0) (f := fun (x : Int) => x) ra1 e6 Fld.self ti3 rfl rfl rfl rfl rfl) rfl [.tmp 22] rfl ⟨(hf 6 (mb rfl)), trivial⟩) rfl (fun _ h => lds_one h) (fun _ => rfl)⟩, Plan.goal_run fun vs hf => ⟨wants_none rfl, OpT.conv (OpT.evs (ev' := evL [(19, .int .i64 x5), (23, .int .i64 x6)]) (opT_cmp (k := .i64) (m := x5) (n := x6) (c := x5 != x6) rfl rfl rfl rfl rfl) rfl [.tmp 19, .tmp 23] rfl ⟨(hf 3 (mb rfl)), (hf 7 (mb rfl)), trivial⟩) rfl (fun _ h => Eq.trans h rfl) (fun _ => rfl)⟩, trivial⟩
      intro vs a15 w15 hf A15 S15
      clear A14 S14
      replace A15 := A15.pick' (L' := [(0, va0), (1, va1), (12, .int .i64 (p0s1.length : Int)), (13, .int .i64 s3), (24, .bool (x5 != x6))]) ⟨rfl, rfl, rfl, rfl, (congrArg some (show _ = _ from (hf 8 (Nat.le_of_ble_eq_true rfl)))), trivial⟩
      replace S15 : St I w0 w15 [F] := S15
      clear hf vs
      refine nrm ?_
      rcases two (x5 != x6) with hb7 | hb7
      · replace hm := ifFe hb7 hm
        refine cnd_false (b := x5 != x6) A15 rfl rfl hb7 ?_
        refine wp_skip (nrmB (nrm (wp_region_lit (rn A15 S15 (sv (opT_add (m := s3) (n := 1) rfl rfl rfl) rfl rfl (sv (opT_move (v := .int .i64 (IntKind.i64.wrap (s3 + 1))) rfl rfl) rfl rfl (enR (L' := [(0, va0), (1, va1), (12, .int .i64 (p0s1.length : Int)), (13, .int .i64 (IntKind.i64.wrap (s3 + 1)))]) rfl ?_)))))))
        clear A15 S15 a15 w15;intro a16 w16 A16 S16
        exact nrm (⟨_, (Option.some.inj hm).symm, ⟨A16.pick' ⟨rfl, rfl, rfl, rfl, trivial⟩, St.sel S16 1 [0] rfl rfl⟩⟩)
      replace hm := ifTe hb7 hm
      refine cnd_true (b := x5 != x6) A15 rfl rfl hb7 ?_
      refine wp_seq (wp_region_lit (rn A15 S15 (sv (opT_assign (v := .bool false) rfl rfl) rfl rfl (enR (L' := [(4, .bool false)]) rfl ?_))))
      clear A15 S15 a15 w15;intro a17 w17 A17 S17
      refine nrm (wp_ret (blkR (thenR (thenR (blkR (thenR (thenR ?_)))))))
      replace hm := loopRet hm hf1 hc1
      obtain rfl := Option.some.inj hm
      exact ret_1 A17 rfl (res_tmp A17 rfl) ⟨_, rfl, rfl, _, Hp.le.rfl, St.sel (S17) 1 [0] rfl rfl⟩
    rintro a18 w18 ⟨s4, ho1, A18, S18⟩
    replace hm := loopOut ho1 hc1
    clear ho1 hc1 hl1
    refine nrm (wp_seq (wp_region_lit (rn A18 S18 (sv (opT_assign (v := .bool true) rfl rfl) rfl rfl (enR (L' := [(4, .bool true)]) rfl ?_)))))
    clear A18 S18 a18 w18;intro a19 w19 A19 S19
    refine nrm (wp_ret ?_)
    obtain rfl := Option.some.inj hm
    exact ret_1 A19 rfl (res_tmp A19 rfl) ⟨_, rfl, rfl, _, Hp.le.rfl, St.sel (S19) 1 [0] rfl rfl⟩
  replace hm := ifTe hb1 hm
  refine cnd_true (b := (p0s1.length : Int) != (p1s2.length : Int)) A2 rfl rfl hb1 ?_
  refine wp_seq (wp_region_lit (rn A2 S2 (sv (opT_assign (v := .bool false) rfl rfl) rfl rfl (enR (L' := [(4, .bool false)]) rfl ?_))))
  clear A2 S2 a2 w2;intro a20 w20 A20 S20
  refine nrm (wp_ret (thenR ?_))
  obtain rfl := Option.some.inj hm
  exact ret_1 A20 rfl (res_tmp A20 rfl) ⟨_, rfl, rfl, _, Hp.le.rfl, St.sel (S20) 1 [0] rfl rfl⟩
theorem c_s_l11Nothing (r : Int × (List Bool) × (List (List Int))) (hm : m_s_l11Nothing = some r) {I : Hp} {w0 : World} : Con Try.prog 93 #[] I w0 [] (fun v => ∃ h0 h1 : Value, v = .agg #[.int .i64 r.1, h0, h1]) (fun v => [Ch.own (rSlice 4 rBool) [vg v [1]] r.2.1, Ch.own (rSlice 34 (rSlice 3 rInt)) [vg v [2]] r.2.2]) := by
  refine con_of_wp (n := 15) [] Try.func93 rfl rfl (Nat.le_of_ble_eq_true rfl) (args_all trivial) (fun F w a ha hs => ?_) (fun v => ⟨dp_own (dp_slice dp_bool), dp_own (dp_slice (dp_slice dp_int)), trivial⟩)
  unfold m_s_l11Nothing at hm
  refine wp_seq (wp_region_lit (rn ha hs (sop (opT_alloc (l := [.int .i64 0, .slice none 0 0, .slice none 0 0]) tz27 rfl rfl) (List.Perm.refl _) rfl rfl ?_)))
  rintro _ a1 w1 ⟨g1, rfl⟩ A1 (S1 : St I w0 w1 [Ch.blk g1 [.int .i64 0, .slice none 0 0, .slice none 0 0] 27, F])
  clear ha hs a w
  replace A1 := A1.pk (L' := [(0, .pointer (some ⟨g1, 0, none⟩))]) rfl
  refine wpList_nil (nrm (wp_seq (wp_region_lit (rn A1 S1 (sop (opT_lit0 (E := 3) (R := rInt) Try.underlying34 ti3 rfl) (List.Perm.refl _) rfl rfl ?_)))))
  rintro v1 a2 w2 - A2 (S2 : St I w0 w2 [Ch.own (rSlice 3 rInt) [v1] ([] : List Int), Ch.blk g1 [.int .i64 0, .slice none 0 0, .slice none 0 0] 27, F])
  clear A1 S1 a1 w1
  refine rn A2 S2 (sv (opT_assign (v := v1) rfl rfl) rfl rfl (enR (L' := [(0, .pointer (some ⟨g1, 0, none⟩)), (1, v1)]) rfl ?_))
  clear A2 S2 a2 w2;intro a3 w3 A3 S3
  refine nrm (wp_seq (wp_seq (wp_region_lit (rn A3 S3 (sv (opT_assign (v := .int .i64 0) rfl rfl) rfl rfl (enR (L' := [(0, .pointer (some ⟨g1, 0, none⟩)), (1, v1), (2, .int .i64 0)]) rfl ?_))))))
  clear A3 S3 a3 w3;intro a4 w4 A4 S4
  refine nrm ?_
  obtain ⟨o1, hl1, hc1⟩ := bindL_some hm
  refine wp_cut (fun a w => ∃ s4 : (List Int) × Int, o1 = .brk s4 ∧ ∃ v7 : Value, Agr 15 a [(0, .pointer (some ⟨g1, 0, none⟩)), (1, v7)] ∧ St I w0 w [Ch.own (rSlice 3 rInt) [v7] s4.1, Ch.blk g1 [.int .i64 0, .slice none 0 0, .slice none 0 0] 27, F]) ?_ ?_
  · refine wp_block (wp_loopM (R := Int × (List Bool) × (List (List Int))) (S := (List Int) × Int) (fun s3 a w => ∃ v8 : Value, Agr 15 a [(0, .pointer (some ⟨g1, 0, none⟩)), (1, v8), (2, .int .i64 s3.2)] ∧ St I w0 w [Ch.own (rSlice 3 rInt) [v8] s3.1, Ch.blk g1 [.int .i64 0, .slice none 0 0, .slice none 0 0] 27, F]) hl1 ?_ ?_)
    · exact ⟨v1, A4.pick' ⟨rfl, rfl, rfl, trivial⟩, St.sel S4 3 [0, 1, 2] rfl rfl⟩
    rintro s3 o2 hm hf1 a15 w15 ⟨v8, A15, S15⟩
    unfold m_s_l11Nothing_l0 at hm
    refine wp_seq (wp_seq (wp_region_lit (rn A15 S15 (sv (opT_move (v := .int .i64 s3.2) rfl rfl) rfl rfl (sv (opT_cmp (k := .i64) (m := s3.2) (n := 9) (c := decide (s3.2 < 9)) rfl rfl rfl rfl rfl) rfl rfl (enR (L' := [(0, .pointer (some ⟨g1, 0, none⟩)), (1, v8), (2, .int .i64 s3.2), (5, .bool (decide (s3.2 < 9)))]) rfl ?_))))))
    clear A15 S15 a15 w15;intro a16 w16 A16 S16
    refine nrm ?_
    rcases two (decide (s3.2 < 9)) with hb3 | hb3
    · replace hm := ifFe hb3 hm
      refine cnd_false (b := decide (s3.2 < 9)) A16 rfl rfl hb3 ?_
      exact wp_exit (thenX (thenX (ex_in (nrm (⟨_, loopBrk hm hf1, ⟨v8, A16.pick' ⟨rfl, rfl, trivial⟩, St.sel S16 3 [0, 1, 2] rfl rfl⟩⟩)))))
    replace hm := ifTe hb3 hm
    refine cnd_true (b := decide (s3.2 < 9)) A16 rfl rfl hb3 ?_
    refine wp_skip (nrm (wp_seq (wp_block (wp_region_lit (rn A16 S16 (sv (opT_move (v := v8) rfl rfl) rfl rfl (sop (opT_lit_cpy (E := 3) (R := rInt) (S := rInt) [(.int .i64 (-1), [.int .i64 (-1)])] [-1] cpy_int (rd_all ⟨rfl, trivial⟩) Try.underlying34 tz3 (by decide) rfl (by decide) (by decide) rfl rfl rfl rfl (us_all ⟨⟨rfl, rfl⟩, trivial⟩)) (List.Perm.refl _) rfl rfl ?_)))))))
    rintro v9 a17 w17 - A17 (S17 : St I w0 w17 [Ch.own (rSlice 3 rInt) [v9] ([-1]), Ch.own (rSlice 3 rInt) [v8] s3.1, Ch.blk g1 [.int .i64 0, .slice none 0 0, .slice none 0 0] 27, F])
    clear A16 S16 a16 w16
    obtain ⟨z3, e3, hm⟩ := bind_some hm
    refine rn A17 S17 (sop (opT_app (E := 3) (R := rInt) (s := v8) (u := v9) e3 Try.underlying34 tz3 rfl (by decide) rfl (by decide) rfl rfl rfl) (perm_sel [1, 0, 2, 3] (m := 4) rfl rfl) rfl rfl ?_)
    rintro v10 a18 w18 - A18 (S18 : St I w0 w18 [Ch.own (rSlice 3 rInt) [v10] z3, Ch.blk g1 [.int .i64 0, .slice none 0 0, .slice none 0 0] 27, F])
    clear A17 S17 a17 w17
    refine rn A18 S18 (sv (opT_assign (v := v10) rfl rfl) rfl rfl (enR (L' := [(0, .pointer (some ⟨g1, 0, none⟩)), (1, v10), (2, .int .i64 s3.2)]) rfl ?_))
    clear A18 S18 a18 w18;intro a19 w19 A19 S19
    refine nrmB (nrm (wp_region_lit (rn A19 S19 (sv (opT_move (v := .int .i64 s3.2) rfl rfl) rfl rfl (sv (opT_add (m := s3.2) (n := 1) rfl rfl rfl) rfl rfl (sv (opT_assign (v := .int .i64 (IntKind.i64.wrap (s3.2 + 1))) rfl rfl) rfl rfl (enR (L' := [(0, .pointer (some ⟨g1, 0, none⟩)), (1, v10), (2, .int .i64 (IntKind.i64.wrap (s3.2 + 1)))]) rfl ?_)))))))
    clear A19 S19 a19 w19;intro a20 w20 A20 S20
    exact nrm (⟨_, (Option.some.inj hm).symm, ⟨v10, A20.pick' ⟨rfl, rfl, rfl, trivial⟩, St.sel S20 3 [0, 1, 2] rfl rfl⟩⟩)
  rintro a21 w21 ⟨s4, ho1, v7, A21, S21⟩
  replace hm := loopOut ho1 hc1
  clear ho1 hc1 hl1
  refine nrm (wp_seq (wp_region_lit (rn A21 S21 (sop (opT_lit_cpy (E := 4) (R := rBool) (S := rBool) [(.bool false, [.bool false])] [false] cpy_bool (rd_all ⟨rfl, trivial⟩) Try.underlying22 tz4 (by decide) rfl (by decide) (by decide) rfl rfl rfl rfl (us_all ⟨⟨rfl, rfl⟩, trivial⟩)) (List.Perm.refl _) rfl rfl ?_))))
  rintro v11 a22 w22 - A22 (S22 : St I w0 w22 [Ch.own (rSlice 4 rBool) [v11] ([false]), Ch.own (rSlice 3 rInt) [v7] s4.1, Ch.blk g1 [.int .i64 0, .slice none 0 0, .slice none 0 0] 27, F])
  clear A21 S21 a21 w21
  refine rn A22 S22 (sv (opT_move (v := v7) rfl rfl) rfl rfl (sop (opT_lit (E := 34) (R := rSlice 3 rInt) [(v7, [v7])] [s4.1] Try.underlying23 tz34 (by decide) rfl (by decide) (by decide) rfl rfl rfl rfl (us_all ⟨⟨(Hd.cells (St.hd S22 1 rfl).1), rfl⟩, trivial⟩)) (perm_front (i := 1) rfl) rfl rfl ?_))
  rintro v12 a23 w23 - A23 (S23 : St I w0 w23 [Ch.own (rSlice 34 (rSlice 3 rInt)) [v12] ([s4.1]), Ch.own (rSlice 4 rBool) [v11] ([false]), Ch.blk g1 [.int .i64 0, .slice none 0 0, .slice none 0 0] 27, F])
  clear A22 S22 a22 w22
  refine rn A23 S23 (sv (opT_build (zl := [.int .i64 0, .slice none 0 0, .slice none 0 0]) (r := [.int .i64 0, v11, v12]) [(1, [v11]), (2, [v12])] tb27 tz27 rfl rfl ⟨rfl, (Hd.cells (St.hd S23 1 rfl).1), rfl, (Hd.cells (St.hd S23 0 rfl).1), trivial⟩ rfl) rfl rfl (sop (opT_store_blk (g := g1) (off := 0) (l := [.int .i64 0, .slice none 0 0, .slice none 0 0]) (d := [.int .i64 0, v11, v12]) (E := 27) (u := .agg #[.int .i64 0, v11, v12]) ti27 rfl rfl rfl rfl rfl (allC rfl (allC (Hd.one (St.hd S23 1 rfl).1) (allC (Hd.one (St.hd S23 0 rfl).1) allN))) (Nat.le_of_ble_eq_true rfl)) (perm_front (i := 2) rfl) rfl rfl ?_))
  rintro _ a24 w24 - A24 (S24 : St I w0 w24 [Ch.blk g1 [.int .i64 0, v11, v12] 27, Ch.own (rSlice 34 (rSlice 3 rInt)) [v12] ([s4.1]), Ch.own (rSlice 4 rBool) [v11] ([false]), F])
  clear A23 S23 a23 w23
  replace A24 := A24.pk (L' := [(0, .pointer (some ⟨g1, 0, none⟩))]) rfl
  refine wpList_nil (nrm (wp_ret ?_))
  obtain rfl := Option.some.inj hm
  exact ret_1 A24 rfl (res_cell (g := g1) A24 rfl S24 0 rfl ti27 rfl) ⟨_, rfl, ⟨_, _, rfl⟩, _, Hp.le.rfl, St.sel (S24) 4 [2, 1, 3] rfl rfl⟩
theorem c_w_heldBoolS (p0a : List Bool) (p1k : Int) (r : Int) (hm : m_w_heldBoolS p0a p1k = some r) {I : Hp} {w0 : World} (va0 : Value) (ra0 : (rSlice 4 rBool).rd I [va0] p0a) : Con Try.prog 57 #[va0, .int .i64 p1k] I w0 [] (fun v => v = .int .i64 r) (fun v => []) := by
  refine con_of_wp (n := 23) [(0, va0), (1, .int .i64 p1k)] Try.func57 rfl rfl (Nat.le_of_ble_eq_true rfl) (args_all ⟨rfl, rfl, trivial⟩) (fun F w a ha hs => ?_) (fun v => trivial)
  unfold m_w_heldBoolS at hm
  refine wp_seq (wp_region_lit (rn ha hs (sv (opT_assign (v := .int .i64 0) rfl rfl) rfl rfl (enR (L' := [(0, va0), (1, .int .i64 p1k)]) rfl ?_))))
  clear ha hs a w;intro a1 w1 A1 S1
  refine nrm (wp_seq (wp_seq (wp_region_lit (rn A1 S1 (sv (opT_assign (v := .int .i64 0) rfl rfl) rfl rfl (enR (L' := [(0, va0), (1, .int .i64 p1k), (5, .int .i64 0)]) rfl ?_))))))
  clear A1 S1 a1 w1;intro a2 w2 A2 S2
  refine nrm ?_
  obtain ⟨o1, hl1, hc1⟩ := bindL_some hm
  refine wp_cut (fun a w => ∃ s4 : Int × Int, o1 = .brk s4 ∧ Agr 23 a [(1, .int .i64 s4.1)] ∧ St I w0 w [F]) ?_ ?_
  · refine wp_block (wp_loopM (R := Int) (S := Int × Int) (fun s3 a w => Agr 23 a [(0, va0), (1, .int .i64 s3.1), (5, .int .i64 s3.2)] ∧ St I w0 w [F]) hl1 ?_ ?_)
    · exact ⟨A2.pick' ⟨rfl, rfl, rfl, trivial⟩, St.sel S2 1 [0] rfl rfl⟩
    rintro s3 o2 hm hf1 a15 w15 ⟨A15, S15⟩
    unfold m_w_heldBoolS_l0 at hm
    refine wp_seq (wp_seq (wp_region_lit (rn A15 S15 (sv (opT_move (v := .int .i64 s3.2) rfl rfl) rfl rfl (sv (opT_move (v := va0) rfl rfl) rfl rfl (sv (opT_len_hd (v := va0) (n := p0a.length) (Hd.of_rd ra0) Try.underlying22 rfl rfl) rfl rfl (sv (opT_cmp (k := .i64) (m := s3.2) (n := (p0a.length : Int)) (c := decide (s3.2 < (p0a.length : Int))) rfl rfl rfl rfl rfl) rfl rfl (enR (L' := [(0, va0), (1, .int .i64 s3.1), (5, .int .i64 s3.2), (9, .bool (decide (s3.2 < (p0a.length : Int))))]) rfl ?_))))))))
    clear A15 S15 a15 w15;intro a16 w16 A16 S16
    refine nrm ?_
    rcases two (decide (s3.2 < (p0a.length : Int))) with hb5 | hb5
    · replace hm := ifFe hb5 hm
      refine cnd_false (b := decide (s3.2 < (p0a.length : Int))) A16 rfl rfl hb5 ?_
      exact wp_exit (thenX (thenX (ex_in (nrm (⟨_, loopBrk hm hf1, ⟨A16.pick' ⟨rfl, trivial⟩, St.sel S16 1 [0] rfl rfl⟩⟩)))))
    replace hm := ifTe hb5 hm
    refine cnd_true (b := decide (s3.2 < (p0a.length : Int))) A16 rfl rfl hb5 ?_
    refine wp_skip (nrm (wp_seq (wp_block (wp_seq (wp_seq (wp_region_lit (rn A16 S16 (sv (opT_move (v := va0) rfl rfl) rfl rfl (sv (opT_move (v := .int .i64 s3.2) rfl rfl) rfl rfl ?_)))))))))
    obtain ⟨x3, e3, hm⟩ := bind_some hm
    refine sv (opT_index_hd (xs := p0a) (i := s3.2) (n := 1) (Hd.of_rd ra0) Try.underlying22 ti4 rfl rfl rfl (getI_in e3)) rfl rfl (so0 (opT_load_el (S := rBool) (xs := p0a) (a := x3) (i := s3.2) (k := 1) (off := 0) (f := fun (x : Bool) => x) ra0 e3 Fld.self ti4 rfl rfl rfl rfl rfl) rfl rfl ?_)
    rintro u a17 w17 hf A17 S17
    obtain rfl := lds_one hf
    clear A16 S16 a16 w16
    refine rn A17 S17 (sv (opT_move (v := .int .i64 s3.1) rfl rfl) rfl rfl (sv (opT_rem (m := s3.1) (n := 3) rfl rfl rfl (by decide)) rfl rfl (sv (opT_cmp (k := .i64) (m := Int.tmod s3.1 3) (n := 0) (c := (Int.tmod s3.1 3) == 0) rfl rfl rfl rfl rfl) rfl rfl (sv (opT_neb (b := x3) (c := (Int.tmod s3.1 3) == 0) Try.underlying4 rfl rfl rfl) rfl rfl (enR (L' := [(0, va0), (1, .int .i64 s3.1), (5, .int .i64 s3.2), (19, .bool (x3 != ((Int.tmod s3.1 3) == 0)))]) rfl ?_)))))
    clear A17 S17 a17 w17;intro a18 w18 A18 S18
    refine nrm ?_
    rcases two (x3 != ((Int.tmod s3.1 3) == 0)) with hb6 | hb6
    · replace hm := ifFe hb6 hm
      refine cnd_false (b := x3 != ((Int.tmod s3.1 3) == 0)) A18 rfl rfl hb6 ?_
      refine wp_skip (nrm (wp_region_lit (rn A18 S18 (sv (opT_move (v := .int .i64 s3.1) rfl rfl) rfl rfl (sv (opT_add (m := s3.1) (n := 1) rfl rfl rfl) rfl rfl (sv (opT_assign (v := .int .i64 (IntKind.i64.wrap (s3.1 + 1))) rfl rfl) rfl rfl (enR (L' := [(0, va0), (1, .int .i64 (IntKind.i64.wrap (s3.1 + 1))), (5, .int .i64 s3.2)]) rfl ?_)))))))
      clear A18 S18 a18 w18;intro a19 w19 A19 S19
      refine nrmB (nrm (wp_region_lit (rn A19 S19 (sv (opT_move (v := .int .i64 s3.2) rfl rfl) rfl rfl (sv (opT_add (m := s3.2) (n := 1) rfl rfl rfl) rfl rfl (sv (opT_assign (v := .int .i64 (IntKind.i64.wrap (s3.2 + 1))) rfl rfl) rfl rfl (enR (L' := [(0, va0), (1, .int .i64 (IntKind.i64.wrap (s3.1 + 1))), (5, .int .i64 (IntKind.i64.wrap (s3.2 + 1)))]) rfl ?_)))))))
      clear A19 S19 a19 w19;intro a20 w20 A20 S20
      exact nrm (⟨_, (Option.some.inj hm).symm, ⟨A20.pick' ⟨rfl, rfl, rfl, trivial⟩, St.sel S20 1 [0] rfl rfl⟩⟩)
    replace hm := ifTe hb6 hm
    refine cnd_true (b := x3 != ((Int.tmod s3.1 3) == 0)) A18 rfl rfl hb6 ?_
    refine wp_seq (wp_region_lit (rn A18 S18 (sv (opT_assign (v := .int .i64 (-1)) rfl rfl) rfl rfl (enR (L' := [(4, .int .i64 (-1))]) rfl ?_))))
    clear A18 S18 a18 w18;intro a21 w21 A21 S21
    refine nrm (wp_ret (thenR (blkR (thenR (thenR (blkR (thenR (thenR ?_))))))))
    replace hm := loopRet hm hf1 hc1
    obtain rfl := Option.some.inj hm
    exact ret_1 A21 rfl (res_tmp A21 rfl) ⟨_, rfl, rfl, _, Hp.le.rfl, St.sel (S21) 1 [0] rfl rfl⟩
  rintro a22 w22 ⟨s4, ho1, A22, S22⟩
  replace hm := loopOut ho1 hc1
  clear ho1 hc1 hl1
  refine nrm (wp_seq (wp_region_lit (rn A22 S22 (sv (opT_move (v := .int .i64 s4.1) rfl rfl) rfl rfl (sv (opT_assign (v := .int .i64 s4.1) rfl rfl) rfl rfl (enR (L' := [(4, .int .i64 s4.1)]) rfl ?_))))))
  clear A22 S22 a22 w22;intro a23 w23 A23 S23
  refine nrm (wp_ret ?_)
  obtain rfl := Option.some.inj hm
  exact ret_1 A23 rfl (res_tmp A23 rfl) ⟨_, rfl, rfl, _, Hp.le.rfl, St.sel (S23) 1 [0] rfl rfl⟩
theorem c_w_heldIntS (p0a : List Int) (p1k : Int) (r : Int) (hm : m_w_heldIntS p0a p1k = some r) {I : Hp} {w0 : World} (va0 : Value) (ra0 : (rSlice 3 rInt).rd I [va0] p0a) : Con Try.prog 103 #[va0, .int .i64 p1k] I w0 [] (fun v => v = .int .i64 r) (fun v => []) := by
  refine con_of_wp (n := 21) [(0, va0), (1, .int .i64 p1k)] Try.func103 rfl rfl (Nat.le_of_ble_eq_true rfl) (args_all ⟨rfl, rfl, trivial⟩) (fun F w a ha hs => ?_) (fun v => trivial)
  unfold m_w_heldIntS at hm
  refine wp_seq (wp_region_lit (rn ha hs (sv (opT_assign (v := .int .i64 0) rfl rfl) rfl rfl (enR (L' := [(0, va0), (1, .int .i64 p1k)]) rfl ?_))))
  clear ha hs a w;intro a1 w1 A1 S1
  refine nrm (wp_seq (wp_seq (wp_region_lit (rn A1 S1 (sv (opT_assign (v := .int .i64 0) rfl rfl) rfl rfl (enR (L' := [(0, va0), (1, .int .i64 p1k), (5, .int .i64 0)]) rfl ?_))))))
  clear A1 S1 a1 w1;intro a2 w2 A2 S2
  refine nrm ?_
  obtain ⟨o1, hl1, hc1⟩ := bindL_some hm
  refine wp_cut (fun a w => ∃ s4 : Int × Int, o1 = .brk s4 ∧ Agr 21 a [(1, .int .i64 s4.1)] ∧ St I w0 w [F]) ?_ ?_
  · refine wp_block (wp_loopM (R := Int) (S := Int × Int) (fun s3 a w => Agr 21 a [(0, va0), (1, .int .i64 s3.1), (5, .int .i64 s3.2)] ∧ St I w0 w [F]) hl1 ?_ ?_)
    · exact ⟨A2.pick' ⟨rfl, rfl, rfl, trivial⟩, St.sel S2 1 [0] rfl rfl⟩
    rintro s3 o2 hm hf1 a15 w15 ⟨A15, S15⟩
    unfold m_w_heldIntS_l0 at hm
    refine wp_seq (wp_seq (wp_region_lit (rn A15 S15 (sv (opT_move (v := .int .i64 s3.2) rfl rfl) rfl rfl (sv (opT_move (v := va0) rfl rfl) rfl rfl (sv (opT_len_hd (v := va0) (n := p0a.length) (Hd.of_rd ra0) Try.underlying34 rfl rfl) rfl rfl (sv (opT_cmp (k := .i64) (m := s3.2) (n := (p0a.length : Int)) (c := decide (s3.2 < (p0a.length : Int))) rfl rfl rfl rfl rfl) rfl rfl (enR (L' := [(0, va0), (1, .int .i64 s3.1), (5, .int .i64 s3.2), (9, .bool (decide (s3.2 < (p0a.length : Int))))]) rfl ?_))))))))
    clear A15 S15 a15 w15;intro a16 w16 A16 S16
    refine nrm ?_
    rcases two (decide (s3.2 < (p0a.length : Int))) with hb5 | hb5
    · replace hm := ifFe hb5 hm
      refine cnd_false (b := decide (s3.2 < (p0a.length : Int))) A16 rfl rfl hb5 ?_
      exact wp_exit (thenX (thenX (ex_in (nrm (⟨_, loopBrk hm hf1, ⟨A16.pick' ⟨rfl, trivial⟩, St.sel S16 1 [0] rfl rfl⟩⟩)))))
    replace hm := ifTe hb5 hm
    refine cnd_true (b := decide (s3.2 < (p0a.length : Int))) A16 rfl rfl hb5 ?_
    refine wp_skip (nrm (wp_seq (wp_block (wp_seq (wp_seq (wp_region_lit (rn A16 S16 (sv (opT_move (v := va0) rfl rfl) rfl rfl (sv (opT_move (v := .int .i64 s3.2) rfl rfl) rfl rfl ?_)))))))))
    obtain ⟨x3, e3, hm⟩ := bind_some hm
    refine sv (opT_index_hd (xs := p0a) (i := s3.2) (n := 1) (Hd.of_rd ra0) Try.underlying34 ti3 rfl rfl rfl (getI_in e3)) rfl rfl (so0 (opT_load_el (S := rInt) (xs := p0a) (a := x3) (i := s3.2) (k := 1) (off := 0) (f := fun (x : Int) => x) ra0 e3 Fld.self ti3 rfl rfl rfl rfl rfl) rfl rfl ?_)
    rintro u a17 w17 hf A17 S17
    obtain rfl := lds_one hf
    clear A16 S16 a16 w16
    refine rn A17 S17 (sv (opT_move (v := .int .i64 s3.1) rfl rfl) rfl rfl (sv (opT_cmp (k := .i64) (m := x3) (n := s3.1) (c := x3 != s3.1) rfl rfl rfl rfl rfl) rfl rfl (enR (L' := [(0, va0), (1, .int .i64 s3.1), (5, .int .i64 s3.2), (17, .bool (x3 != s3.1))]) rfl ?_)))
    clear A17 S17 a17 w17;intro a18 w18 A18 S18
    refine nrm ?_
    rcases two (x3 != s3.1) with hb6 | hb6
    · replace hm := ifFe hb6 hm
      refine cnd_false (b := x3 != s3.1) A18 rfl rfl hb6 ?_
      refine wp_skip (nrm (wp_region_lit (rn A18 S18 (sv (opT_move (v := .int .i64 s3.1) rfl rfl) rfl rfl (sv (opT_add (m := s3.1) (n := 1) rfl rfl rfl) rfl rfl (sv (opT_assign (v := .int .i64 (IntKind.i64.wrap (s3.1 + 1))) rfl rfl) rfl rfl (enR (L' := [(0, va0), (1, .int .i64 (IntKind.i64.wrap (s3.1 + 1))), (5, .int .i64 s3.2)]) rfl ?_)))))))
      clear A18 S18 a18 w18;intro a19 w19 A19 S19
      refine nrmB (nrm (wp_region_lit (rn A19 S19 (sv (opT_move (v := .int .i64 s3.2) rfl rfl) rfl rfl (sv (opT_add (m := s3.2) (n := 1) rfl rfl rfl) rfl rfl (sv (opT_assign (v := .int .i64 (IntKind.i64.wrap (s3.2 + 1))) rfl rfl) rfl rfl (enR (L' := [(0, va0), (1, .int .i64 (IntKind.i64.wrap (s3.1 + 1))), (5, .int .i64 (IntKind.i64.wrap (s3.2 + 1)))]) rfl ?_)))))))
      clear A19 S19 a19 w19;intro a20 w20 A20 S20
      exact nrm (⟨_, (Option.some.inj hm).symm, ⟨A20.pick' ⟨rfl, rfl, rfl, trivial⟩, St.sel S20 1 [0] rfl rfl⟩⟩)
    replace hm := ifTe hb6 hm
    refine cnd_true (b := x3 != s3.1) A18 rfl rfl hb6 ?_
    refine wp_seq (wp_region_lit (rn A18 S18 (sv (opT_assign (v := .int .i64 (-1)) rfl rfl) rfl rfl (enR (L' := [(4, .int .i64 (-1))]) rfl ?_))))
    clear A18 S18 a18 w18;intro a21 w21 A21 S21
    refine nrm (wp_ret (thenR (blkR (thenR (thenR (blkR (thenR (thenR ?_))))))))
    replace hm := loopRet hm hf1 hc1
    obtain rfl := Option.some.inj hm
    exact ret_1 A21 rfl (res_tmp A21 rfl) ⟨_, rfl, rfl, _, Hp.le.rfl, St.sel (S21) 1 [0] rfl rfl⟩
  rintro a22 w22 ⟨s4, ho1, A22, S22⟩
  replace hm := loopOut ho1 hc1
  clear ho1 hc1 hl1
  refine nrm (wp_seq (wp_region_lit (rn A22 S22 (sv (opT_move (v := .int .i64 s4.1) rfl rfl) rfl rfl (sv (opT_assign (v := .int .i64 s4.1) rfl rfl) rfl rfl (enR (L' := [(4, .int .i64 s4.1)]) rfl ?_))))))
  clear A22 S22 a22 w22;intro a23 w23 A23 S23
  refine nrm (wp_ret ?_)
  obtain rfl := Option.some.inj hm
  exact ret_1 A23 rfl (res_tmp A23 rfl) ⟨_, rfl, rfl, _, Hp.le.rfl, St.sel (S23) 1 [0] rfl rfl⟩
theorem c_w_markIntS (p0a : List Int) (p1k : Int) (r : Int × (List Int)) (hm : m_w_markIntS p0a p1k = some r) {I : Hp} {w0 : World} (va0 : Value) : Con Try.prog 102 #[va0, .int .i64 p1k] I w0 [Ch.own (rSlice 3 rInt) [va0] p0a] (fun v => v = .int .i64 r.1) (fun v => [Ch.own (rSlice 3 rInt) [va0] r.2]) := by
  refine con_of_wp (n := 19) [(0, va0), (1, .int .i64 p1k)] Try.func102 rfl rfl (Nat.le_of_ble_eq_true rfl) (args_all ⟨rfl, rfl, trivial⟩) (fun F w a ha hs => ?_) (fun v => ⟨dp_own (dp_slice dp_int), trivial⟩)
  unfold m_w_markIntS at hm
  refine wp_seq (wp_region_lit (rn ha hs (sv (opT_assign (v := .int .i64 0) rfl rfl) rfl rfl (enR (L' := [(0, va0), (1, .int .i64 p1k)]) rfl ?_))))
  clear ha hs a w;intro a1 w1 A1 S1
  refine nrm (wp_seq (wp_seq (wp_region_lit (rn A1 S1 (sv (opT_assign (v := .int .i64 0) rfl rfl) rfl rfl (enR (L' := [(0, va0), (1, .int .i64 p1k), (5, .int .i64 0)]) rfl ?_))))))
  clear A1 S1 a1 w1;intro a2 w2 A2 S2
  refine nrm ?_
  obtain ⟨o1, hl1, hc1⟩ := bindL_some hm
  refine wp_cut (fun a w => ∃ s4 : (List Int) × Int × Int, o1 = .brk s4 ∧ Agr 19 a [(1, .int .i64 s4.2.1)] ∧ St I w0 w [Ch.own (rSlice 3 rInt) [va0] s4.1, F]) ?_ ?_
  · refine wp_block (wp_loopM (R := Int × (List Int)) (S := (List Int) × Int × Int) (fun s3 a w => Agr 19 a [(0, va0), (1, .int .i64 s3.2.1), (5, .int .i64 s3.2.2)] ∧ St I w0 w [Ch.own (rSlice 3 rInt) [va0] s3.1, F]) hl1 ?_ ?_)
    · exact ⟨A2.pick' ⟨rfl, rfl, rfl, trivial⟩, St.sel S2 2 [0, 1] rfl rfl⟩
    rintro s3 o2 hm hf1 a11 w11 ⟨A11, S11⟩
    unfold m_w_markIntS_l0 at hm
    refine wp_seq (wp_seq (wp_region_lit (rn A11 S11 (sv (opT_move (v := .int .i64 s3.2.2) rfl rfl) rfl rfl (sv (opT_move (v := va0) rfl rfl) rfl rfl (sv (opT_len_hd (v := va0) (n := s3.1.length) (St.hd S11 0 rfl).1 Try.underlying34 rfl rfl) rfl rfl (sv (opT_cmp (k := .i64) (m := s3.2.2) (n := (s3.1.length : Int)) (c := decide (s3.2.2 < (s3.1.length : Int))) rfl rfl rfl rfl rfl) rfl rfl (enR (L' := [(0, va0), (1, .int .i64 s3.2.1), (5, .int .i64 s3.2.2), (9, .bool (decide (s3.2.2 < (s3.1.length : Int))))]) rfl ?_))))))))
    clear A11 S11 a11 w11;intro a12 w12 A12 S12
    refine nrm ?_
    rcases two (decide (s3.2.2 < (s3.1.length : Int))) with hb3 | hb3
    · replace hm := ifFe hb3 hm
      refine cnd_false (b := decide (s3.2.2 < (s3.1.length : Int))) A12 rfl rfl hb3 ?_
      exact wp_exit (thenX (thenX (ex_in (nrm (⟨_, loopBrk hm hf1, ⟨A12.pick' ⟨rfl, trivial⟩, St.sel S12 2 [0, 1] rfl rfl⟩⟩)))))
    replace hm := ifTe hb3 hm
    refine cnd_true (b := decide (s3.2.2 < (s3.1.length : Int))) A12 rfl rfl hb3 ?_
    refine wp_skip (nrm (wp_seq (wp_block (wp_seq (wp_region_lit (rn A12 S12 (sv (opT_move (v := va0) rfl rfl) rfl rfl (sv (opT_move (v := .int .i64 s3.2.2) rfl rfl) rfl rfl (sv (opT_move (v := .int .i64 s3.2.1) rfl rfl) rfl rfl ?_)))))))))
    obtain ⟨x3, e3, hm⟩ := bind_some hm
    refine sv (opT_index_hd (xs := s3.1) (i := s3.2.2) (n := 1) (St.hd S12 0 rfl).1 Try.underlying34 ti3 rfl rfl rfl (getI_in e3)) rfl rfl (sop (opT_store_el (E := 3) (R := rInt) (S := rInt) (xs := s3.1) (a := x3) (b := s3.2.1) (i := s3.2.2) (k := 1) (off := 0) (f := fun x y => y) (v := va0) (d := [.int .i64 s3.2.1]) (u := .int .i64 s3.2.1) sh_int cpy_int e3 Upd.self ti3 rfl rfl rfl rfl (allC rfl allN) rfl rfl (by decide) rfl) (perm_front (i := 0) rfl) rfl rfl ?_)
    rintro _ a13 w13 - A13 (S13 : St I w0 w13 [Ch.own (rSlice 3 rInt) [va0] (s3.1.set s3.2.2.toNat s3.2.1), F])
    clear A12 S12 a12 w12
    replace A13 := A13.pk (L' := [(0, va0), (1, .int .i64 s3.2.1), (5, .int .i64 s3.2.2)]) rfl
    refine wpList_nil (nrm (wp_region_lit (rn A13 S13 (sv (opT_move (v := .int .i64 s3.2.1) rfl rfl) rfl rfl (sv (opT_add (m := s3.2.1) (n := 1) rfl rfl rfl) rfl rfl (sv (opT_assign (v := .int .i64 (IntKind.i64.wrap (s3.2.1 + 1))) rfl rfl) rfl rfl (enR (L' := [(0, va0), (1, .int .i64 (IntKind.i64.wrap (s3.2.1 + 1))), (5, .int .i64 s3.2.2)]) rfl ?_)))))))
    clear A13 S13 a13 w13;intro a14 w14 A14 S14
    refine nrmB (nrm (wp_region_lit (rn A14 S14 (sv (opT_move (v := .int .i64 s3.2.2) rfl rfl) rfl rfl (sv (opT_add (m := s3.2.2) (n := 1) rfl rfl rfl) rfl rfl (sv (opT_assign (v := .int .i64 (IntKind.i64.wrap (s3.2.2 + 1))) rfl rfl) rfl rfl (enR (L' := [(0, va0), (1, .int .i64 (IntKind.i64.wrap (s3.2.1 + 1))), (5, .int .i64 (IntKind.i64.wrap (s3.2.2 + 1)))]) rfl ?_)))))))
    clear A14 S14 a14 w14;intro a15 w15 A15 S15
    exact nrm (⟨_, (Option.some.inj hm).symm, ⟨A15.pick' ⟨rfl, rfl, rfl, trivial⟩, St.sel S15 2 [0, 1] rfl rfl⟩⟩)
  rintro a16 w16 ⟨s4, ho1, A16, S16⟩
  replace hm := loopOut ho1 hc1
  clear ho1 hc1 hl1
  refine nrm (wp_seq (wp_region_lit (rn A16 S16 (sv (opT_move (v := .int .i64 s4.2.1) rfl rfl) rfl rfl (sv (opT_assign (v := .int .i64 s4.2.1) rfl rfl) rfl rfl (enR (L' := [(4, .int .i64 s4.2.1)]) rfl ?_))))))
  clear A16 S16 a16 w16;intro a17 w17 A17 S17
  refine nrm (wp_ret ?_)
  obtain rfl := Option.some.inj hm
  exact ret_1 A17 rfl (res_tmp A17 rfl) ⟨_, rfl, rfl, _, Hp.le.rfl, St.sel (S17) 2 [0, 1] rfl rfl⟩
theorem c_s_l12Accept (p0a : Int × (List Bool) × (List (List Int))) (p1s : Int) (r : Bool) (hm : m_s_l12Accept p0a p1s = some r) {I : Hp} {w0 : World} (va0 : Value) (va1 : Value) (ra0 : (rSlice 4 rBool).rd I [va0] p0a.2.1) (ra1 : (rSlice 34 (rSlice 3 rInt)).rd I [va1] p0a.2.2) : Con Try.prog 164 #[.agg #[.int .i64 p0a.1, va0, va1], .int .i64 p1s] I w0 [] (fun v => v = .bool r) (fun v => []) := by
  refine con_of_wp (n := 14) [(0, .agg #[.int .i64 p0a.1, va0, va1]), (1, .int .i64 p1s)] Try.func164 rfl rfl (Nat.le_of_ble_eq_true rfl) (args_all ⟨rfl, rfl, trivial⟩) (fun F w a ha hs => ?_) (fun v => trivial)
  unfold m_s_l12Accept at hm
  refine wp_seq (wp_region_lit (rn ha hs (sop (opT_box (u := .agg #[.int .i64 p0a.1, va0, va1]) (l := [.int .i64 p0a.1, va0, va1]) rfl rfl rfl) (List.Perm.refl _) rfl rfl ?_)))
  rintro _ a1 w1 ⟨g1, rfl⟩ A1 (S1 : St I w0 w1 [Ch.blk g1 [.int .i64 p0a.1, va0, va1] 27, F])
  clear ha hs a w
  refine rn A1 S1 (sv (opT_assign (v := .bool false) rfl rfl) rfl rfl (enR (L' := [(1, .int .i64 p1s), (2, .pointer (some ⟨g1, 0, none⟩))]) rfl ?_))
  clear A1 S1 a1 w1;intro a2 w2 A2 S2
  refine nrm (wp_seq (wp_region_lit (rn A2 S2 (sv (opT_move (v := .int .i64 p1s) rfl rfl) rfl rfl (sv (opT_cmp (k := .i64) (m := p1s) (n := 0) (c := decide (p1s ≥ 0)) rfl rfl rfl rfl rfl) rfl rfl (sv (opT_move (v := .bool (decide (p1s ≥ 0))) rfl rfl) rfl rfl ?_))))))
  rcases two (decide (p1s ≥ 0)) with hb1 | hb1
  · replace hm := ifFe hb1 hm
    refine ssk (g := 2) (d := 7) (want := true) (b := decide (p1s ≥ 0)) rfl rfl rfl hb1 rfl (ssk (g := 2) (d := 7) (want := true) (b := decide (p1s ≥ 0)) rfl rfl rfl hb1 rfl (ssk (g := 2) (d := 7) (want := true) (b := decide (p1s ≥ 0)) rfl rfl rfl hb1 rfl (ssk (g := 2) (d := 7) (want := true) (b := decide (p1s ≥ 0)) rfl rfl rfl hb1 rfl (ssk (g := 2) (d := 7) (want := true) (b := decide (p1s ≥ 0)) rfl rfl rfl hb1 rfl (sv (opT_pick (b := decide (p1s ≥ 0)) (v := .bool false) rfl rfl (ifF hb1)) rfl rfl (sv (opT_assign (v := .bool false) rfl rfl) rfl rfl (enR (L' := [(4, .bool false)]) rfl ?_)))))))
    clear A2 S2 a2 w2;intro a3 w3 A3 S3
    refine nrm (wp_ret ?_)
    obtain rfl := Option.some.inj hm
    exact ret_1 A3 rfl (res_tmp A3 rfl) ⟨_, rfl, rfl, _, Hp.le.rfl, St.sel (S3) 2 [1] rfl rfl⟩
  replace hm := ifTe hb1 hm
  refine svg (g := 2) (d := 7) (want := true) (b := decide (p1s ≥ 0)) rfl rfl rfl hb1 (opT_field_addr (g := g1) (b := 0) tf27_1 rfl rfl) rfl (sopg (g := 2) (d := 7) (want := true) (b := decide (p1s ≥ 0)) rfl rfl rfl hb1 (opT_load_blk (g := g1) (off := 1) (E := 27) (l := [.int .i64 p0a.1, va0, va1]) (d := [va0]) (u := va0) ti22 rfl rfl rfl rfl rfl rfl) (perm_front (i := 0) rfl) rfl ?_)
  rintro u a4 w4 hf A4 (S4 : St I w0 w4 [Ch.blk g1 [.int .i64 p0a.1, va0, va1] 27, F])
  obtain rfl := Eq.symm hf
  clear A2 S2 a2 w2
  refine rn A4 S4 (svg (g := 2) (d := 7) (want := true) (b := decide (p1s ≥ 0)) rfl rfl rfl hb1 (opT_move (v := .int .i64 p1s) rfl rfl) rfl ?_)
  obtain ⟨x1, e1, hm⟩ := bind_some hm
  refine svg (g := 2) (d := 7) (want := true) (b := decide (p1s ≥ 0)) rfl rfl rfl hb1 (opT_index_hd (xs := p0a.2.1) (i := p1s) (n := 1) (Hd.of_rd ra0) Try.underlying22 ti4 rfl rfl rfl (getI_in e1)) rfl (so0g (g := 2) (d := 7) (want := true) (b := decide (p1s ≥ 0)) rfl rfl rfl hb1 (opT_load_el (S := rBool) (xs := p0a.2.1) (a := x1) (i := p1s) (k := 1) (off := 0) (f := fun (x : Bool) => x) ra0 e1 Fld.self ti4 rfl rfl rfl rfl rfl) rfl ?_)
  rintro u a5 w5 hf A5 S5
  obtain rfl := lds_one hf
  clear A4 S4 a4 w4
  refine rn A5 S5 (sv (opT_pick (b := decide (p1s ≥ 0)) (v := .bool x1) rfl rfl (ifT hb1)) rfl rfl (sv (opT_assign (v := .bool x1) rfl rfl) rfl rfl (enR (L' := [(4, .bool x1)]) rfl ?_)))
  clear A5 S5 a5 w5;intro a6 w6 A6 S6
  refine nrm (wp_ret ?_)
  obtain rfl := Option.some.inj hm
  exact ret_1 A6 rfl (res_tmp A6 rfl) ⟨_, rfl, rfl, _, Hp.le.rfl, St.sel (S6) 2 [1] rfl rfl⟩
theorem c_g_slices_Clone_S_bool_bool (p0s : List Bool) (r : List Bool) (hm : m_g_slices_Clone_S_bool_bool p0s = some r) {I : Hp} {w0 : World} (va0 : Value) (ra0 : (rSlice 4 rBool).rd I [va0] p0s) : Con Try.prog 147 #[va0] I w0 [] (fun v => True) (fun v => [Ch.own (rSlice 4 rBool) [v] r]) := by
  refine con_of_wp (n := 8) [(0, va0)] Try.func147 rfl rfl (Nat.le_of_ble_eq_true rfl) (args_all ⟨rfl, trivial⟩) (fun F w a ha hs => ?_) (fun v => ⟨dp_own (dp_slice dp_bool), trivial⟩)
  unfold m_g_slices_Clone_S_bool_bool at hm
  refine wp_seq (wp_region_lit (rn ha hs (sv (opT_assign (v := .slice none 0 0) rfl rfl) rfl rfl (enR (L' := [(0, va0)]) rfl ?_))))
  clear ha hs a w;intro a1 w1 A1 S1
  refine nrm (wp_seq (wp_seq (wp_region_lit (rn A1 S1 (sv (opT_move (v := va0) rfl rfl) rfl rfl (sv (opT_eqn Try.underlying22 (Hd.of_rd ra0) rfl rfl rfl) rfl rfl (enR (L' := [(0, va0), (4, .bool (isNilV va0))]) rfl ?_)))))))
  clear A1 S1 a1 w1;intro a2 w2 A2 S2
  refine nrm ?_
  rcases two (isNilV va0) with hb1 | hb1
  · skip
    refine cnd_false (b := isNilV va0) A2 rfl rfl hb1 ?_
    refine wp_skip (nrm (wp_seq (wp_region_lit (rn A2 S2 (sop (opT_lit0 (E := 4) (R := rBool) Try.underlying22 ti4 rfl) (List.Perm.refl _) rfl rfl ?_)))))
    rintro v1 a3 w3 - A3 (S3 : St I w0 w3 [Ch.own (rSlice 4 rBool) [v1] ([] : List Bool), F])
    clear A2 S2 a2 w2
    refine rn A3 S3 (sv (opT_move (v := va0) rfl rfl) rfl rfl ?_)
    obtain ⟨z1, e1, hm⟩ := bind_some hm
    refine sop (opT_app_fro (E := 4) (R := rBool) (S := rBool) (s := v1) (u := va0) e1 cpy_bool rfl ra0 Try.underlying22 tz4 rfl (by decide) rfl (by decide) rfl rfl rfl) (perm_front (i := 0) rfl) rfl rfl ?_
    rintro v2 a4 w4 - A4 (S4 : St I w0 w4 [Ch.own (rSlice 4 rBool) [v2] z1, F])
    clear A3 S3 a3 w3
    refine rn A4 S4 (sv (opT_assign (v := v2) rfl rfl) rfl rfl (enR (L' := [(2, v2)]) rfl ?_))
    clear A4 S4 a4 w4;intro a5 w5 A5 S5
    refine nrm (wp_ret ?_)
    obtain rfl := Option.some.inj hm
    exact ret_1 A5 rfl (res_tmp A5 rfl) ⟨_, rfl, trivial, _, Hp.le.rfl, St.sel (S5) 2 [0, 1] rfl rfl⟩
  · have hz1 : p0s = [] := nil_list hb1 (Hd.of_rd ra0)
    replace hm : (some ([]) : Option (List Bool)) = some r := by simpa [hz1, appI] using hm
    refine cnd_true (b := isNilV va0) A2 rfl rfl hb1 ?_
    refine wp_seq (wp_region_lit (rn A2 S2 (sv (opT_assign (v := .slice none 0 0) rfl rfl) rfl rfl (enR (L' := [(2, .slice none 0 0)]) rfl ?_))))
    clear A2 S2 a2 w2;intro a7 w7 A7 S7
    refine nrm (wp_ret (thenR ?_))
    obtain rfl := Option.some.inj hm
    exact ret_1 A7 rfl (res_tmp A7 rfl) ⟨_, rfl, trivial, _, Hp.le.rfl, St.sel ((St.nil S7)) 2 [0, 1] rfl rfl⟩
end Go.Proofs.Ytcihbmdppgpmjaa.D
