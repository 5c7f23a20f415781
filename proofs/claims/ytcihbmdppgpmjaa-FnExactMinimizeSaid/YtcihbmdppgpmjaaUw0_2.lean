/- Printed by dec.py: models of functions and the walks that show them. -/
import Derived.Test.YtcihbmdppgpmjaaUm
set_option linter.unusedVariables false
set_option linter.unusedSimpArgs false
set_option linter.unnecessarySimpa false
set_option maxRecDepth 100000
namespace Go.Proofs.Ytcihbmdppgpmjaa.D
open Go.RowKit
set_option maxHeartbeats 8000000 in
theorem c_s_l2Cmp (p0a : List Int) (p1b : List Int) (r : Int) (hm : m_s_l2Cmp p0a p1b = some r) {I : Hp} {w0 : World} (va0 : Value) (va1 : Value) (ra0 : (rSlice 3 rInt).rd I [va0] p0a) (ra1 : (rSlice 3 rInt).rd I [va1] p1b) : Con Try.prog 104 #[va0, va1] I w0 [] (fun v => v = .int .i64 r) (fun v => []) := by
  refine con_of_wp (n := 46) [(0, va0), (1, va1)] Try.func104 rfl rfl (Nat.le_of_ble_eq_true rfl) (args_all ⟨rfl, rfl, trivial⟩) (fun F w a ha hs => ?_) (fun v => trivial)
  unfold m_s_l2Cmp at hm
  refine wp_seq ?_
  refine wp_region_lit ?_
  refine sv ha hs (opT_assign (v := .int .i64 0) rfl rfl) rfl rfl ?_
  clear ha hs a w;intro a1 w1 A1 S1
  refine wpList_nil ?_
  replace A1 := A1.pick' (L' := [(0, va0), (1, va1)]) ⟨rfl, rfl, trivial⟩
  refine nrm ?_
  refine wp_seq ?_
  refine wp_seq ?_
  refine wp_region_lit ?_
  refine sv A1 S1 (opT_assign (v := .int .i64 0) rfl rfl) rfl rfl ?_
  clear A1 S1 a1 w1;intro a2 w2 A2 S2
  refine wpList_nil ?_
  replace A2 := A2.pick' (L' := [(0, va0), (1, va1), (5, .int .i64 0)]) ⟨rfl, rfl, rfl, trivial⟩
  refine nrm ?_
  obtain ⟨o1, hl1, hc1⟩ := bindL_some hm
  refine wp_cut (fun a w => ∃ s4 : Int, o1 = .brk s4 ∧ Agr 46 a [(0, va0), (1, va1)] ∧ St I w0 w [F]) ?_ ?_
  · refine wp_block (wp_loopM (R := Int) (S := Int) (fun s3 a w => Agr 46 a [(0, va0), (1, va1), (5, .int .i64 s3)] ∧ St I w0 w [F]) hl1 ?_ ?_)
    · exact ⟨A2.pick' ⟨rfl, rfl, rfl, trivial⟩, St.sel S2 1 [0] rfl rfl⟩
    · rintro s3 o2 hm hf1 a43 w43 ⟨A43, S43⟩
      unfold m_s_l2Cmp_l0 at hm
      refine wp_seq ?_
      refine wp_seq ?_
      refine wp_region_lit ?_
      refine sv A43 S43 (opT_move (v := .int .i64 s3) rfl rfl) rfl rfl ?_
      clear A43 S43 a43 w43;intro a44 w44 A44 S44
      refine sv A44 S44 (opT_move (v := va0) rfl rfl) rfl rfl ?_
      clear A44 S44 a44 w44;intro a45 w45 A45 S45
      refine sv A45 S45 (opT_len_hd (v := va0) (n := p0a.length) (Hd.of_rd ra0) Try.underlying34 rfl rfl) rfl rfl ?_
      clear A45 S45 a45 w45;intro a46 w46 A46 S46
      refine sv A46 S46 (opT_cmp (k := .i64) (m := s3) (n := (p0a.length : Int)) (c := decide (s3 < (p0a.length : Int))) rfl rfl rfl rfl rfl) rfl rfl ?_
      clear A46 S46 a46 w46;intro a47 w47 A47 S47
      refine sv A47 S47 (opT_move (v := .bool (decide (s3 < (p0a.length : Int)))) rfl rfl) rfl rfl ?_
      clear A47 S47 a47 w47;intro a48 w48 A48 S48
      rcases two (decide (s3 < (p0a.length : Int))) with hb9 | hb9
      · replace hm := ifFe hb9 hm
        refine seq_skip (g := 4) (d := 10) (want := true) (b := decide (s3 < (p0a.length : Int))) A48 S48 rfl rfl rfl hb9 rfl ?_
        intro a49 A49
        refine seq_skip (g := 4) (d := 10) (want := true) (b := decide (s3 < (p0a.length : Int))) A49 S48 rfl rfl rfl hb9 rfl ?_
        intro a50 A50
        refine seq_skip (g := 4) (d := 10) (want := true) (b := decide (s3 < (p0a.length : Int))) A50 S48 rfl rfl rfl hb9 rfl ?_
        intro a51 A51
        refine seq_skip (g := 4) (d := 10) (want := true) (b := decide (s3 < (p0a.length : Int))) A51 S48 rfl rfl rfl hb9 rfl ?_
        intro a52 A52
        refine sv A52 S48 (opT_pick (b := decide (s3 < (p0a.length : Int))) (v := .bool false) rfl rfl (ifF hb9)) rfl rfl ?_
        clear A52 S48 a52 w48;intro a53 w53 A53 S53
        refine wpList_nil ?_
        replace A53 := A53.pick' (L' := [(0, va0), (1, va1), (5, .int .i64 s3), (15, .bool false)]) ⟨rfl, rfl, rfl, rfl, trivial⟩
        refine nrm ?_
        refine cnd_false (b := false) A53 rfl rfl rfl ?_
        refine wp_exit ?_
        refine thenX ?_
        refine thenX ?_
        refine ex_in ?_
        refine nrm ?_
        exact ⟨_, loopBrk hm hf1, ⟨A53.pick' ⟨rfl, rfl, trivial⟩, St.sel S53 1 [0] rfl rfl⟩⟩
      · replace hm := ifTe hb9 hm
        refine svg (g := 4) (d := 10) (want := true) (b := decide (s3 < (p0a.length : Int))) A48 S48 rfl rfl rfl hb9 (opT_move (v := .int .i64 s3) rfl rfl) rfl ?_
        clear A48 S48 a48 w48;intro a54 w54 A54 S54
        refine svg (g := 4) (d := 10) (want := true) (b := decide (s3 < (p0a.length : Int))) A54 S54 rfl rfl rfl hb9 (opT_move (v := va1) rfl rfl) rfl ?_
        clear A54 S54 a54 w54;intro a55 w55 A55 S55
        refine svg (g := 4) (d := 10) (want := true) (b := decide (s3 < (p0a.length : Int))) A55 S55 rfl rfl rfl hb9 (opT_len_hd (v := va1) (n := p1b.length) (Hd.of_rd ra1) Try.underlying34 rfl rfl) rfl ?_
        clear A55 S55 a55 w55;intro a56 w56 A56 S56
        refine svg (g := 4) (d := 10) (want := true) (b := decide (s3 < (p0a.length : Int))) A56 S56 rfl rfl rfl hb9 (opT_cmp (k := .i64) (m := s3) (n := (p1b.length : Int)) (c := decide (s3 < (p1b.length : Int))) rfl rfl rfl rfl rfl) rfl ?_
        clear A56 S56 a56 w56;intro a57 w57 A57 S57
        refine sv A57 S57 (opT_pick (b := decide (s3 < (p0a.length : Int))) (v := .bool (decide (s3 < (p1b.length : Int)))) rfl rfl (ifT hb9)) rfl rfl ?_
        clear A57 S57 a57 w57;intro a58 w58 A58 S58
        refine wpList_nil ?_
        replace A58 := A58.pick' (L' := [(0, va0), (1, va1), (5, .int .i64 s3), (15, .bool (decide (s3 < (p1b.length : Int))))]) ⟨rfl, rfl, rfl, rfl, trivial⟩
        refine nrm ?_
        rcases two (decide (s3 < (p1b.length : Int))) with hb10 | hb10
        · replace hm := ifFe hb10 hm
          refine cnd_false (b := decide (s3 < (p1b.length : Int))) A58 rfl rfl hb10 ?_
          refine wp_exit ?_
          refine thenX ?_
          refine thenX ?_
          refine ex_in ?_
          refine nrm ?_
          exact ⟨_, loopBrk hm hf1, ⟨A58.pick' ⟨rfl, rfl, trivial⟩, St.sel S58 1 [0] rfl rfl⟩⟩
        · replace hm := ifTe hb10 hm
          refine cnd_true (b := decide (s3 < (p1b.length : Int))) A58 rfl rfl hb10 ?_
          refine wp_skip ?_
          refine nrm ?_
          refine wp_seq ?_
          refine wp_block ?_
          refine wp_seq ?_
          refine wp_seq ?_
          obtain ⟨x9, e9, hm⟩ := bind_some hm
          obtain ⟨x10, e10, hm⟩ := bind_some hm
          refine wp_draw (L := [(0, va0), (1, va1), (5, .int .i64 s3), (15, .bool (decide (s3 < (p1b.length : Int))))]) (C := [F]) { ops := [⟨[], [], [], [0], fun | [xo0] => xo0 = va0 | _ => True, [(0, none)]⟩, ⟨[], [], [], [1], fun | [xo1] => xo1 = .int .i64 s3 | _ => True, [(5, none)]⟩, ⟨[], [], [], [2], fun | [xo2] => xo2 = pt va0 (s3.toNat * 1) | _ => True, [(18, some 0), (19, some 1)]⟩, ⟨[], [], [], [3], fun | [xo3] => xo3 = .int .i64 x9 | _ => True, [(20, some 2)]⟩, ⟨[], [], [], [4], fun | [xo4] => xo4 = va1 | _ => True, [(1, none)]⟩, ⟨[], [], [], [5], fun | [xo5] => xo5 = .int .i64 s3 | _ => True, [(5, none)]⟩, ⟨[], [], [], [6], fun | [xo6] => xo6 = pt va1 (s3.toNat * 1) | _ => True, [(22, some 4), (23, some 5)]⟩, ⟨[], [], [], [7], fun | [xo7] => xo7 = .int .i64 x10 | _ => True, [(24, some 6)]⟩, ⟨[], [], [], [8], fun | [xo8] => xo8 = .bool (decide (x9 < x10)) | _ => True, [(21, some 3), (25, some 7)]⟩], res := [], base := [], pre := [[], [], [0, 1], [0, 1, 2], [], [], [4, 5], [4, 5, 6], [0, 1, 2, 3, 4, 5, 6, 7]], fin := [(0, none), (1, none), (5, none), (26, some 8)], left := [] } (by kernel_rfl) A58 S58 (perm_sel [0] (m := 1) rfl rfl) (by kernel_rfl) (by kernel_rfl) ?_ ?_
          · exact ⟨Plan.goal_run fun vs hf => ⟨wants_none rfl, OpT.conv (OpT.evs (ev' := evL [(0, va0)]) (opT_move (v := va0) rfl rfl) rfl [.tmp 0] rfl ⟨rfl, trivial⟩) rfl (fun _ h => Eq.trans h rfl) (fun _ => rfl)⟩, Plan.goal_run fun vs hf => ⟨wants_none rfl, OpT.conv (OpT.evs (ev' := evL [(5, .int .i64 s3)]) (opT_move (v := .int .i64 s3) rfl rfl) rfl [.tmp 5] rfl ⟨rfl, trivial⟩) rfl (fun _ h => Eq.trans h rfl) (fun _ => rfl)⟩, Plan.goal_run fun vs hf => ⟨wants_none rfl, OpT.conv (OpT.evs (ev' := evL [(18, va0), (19, .int .i64 s3)]) (opT_index_hd (xs := p0a) (i := s3) (n := 1) (Hd.of_rd ra0) Try.underlying34 ti3 rfl rfl rfl (getI_in e9)) rfl [.tmp 18, .tmp 19] rfl ⟨(hf 0 (mb rfl)), (hf 1 (mb rfl)), trivial⟩) rfl (fun _ h => Eq.trans h rfl) (fun _ => rfl)⟩, Plan.goal_run fun vs hf => ⟨wants_none rfl, OpT.conv (OpT.evs (ev' := evL [(20, pt va0 (s3.toNat * 1))]) (opT_load_el (S := rInt) (xs := p0a) (a := x9) (i := s3) (k := 1) (off := 0) (f := fun (x : Int) => x) ra0 e9 Fld.self ti3 rfl rfl rfl rfl rfl) rfl [.tmp 20] rfl ⟨(hf 2 (mb rfl)), trivial⟩) rfl (fun _ h => lds_one h) (fun _ => rfl)⟩, Plan.goal_run fun vs hf => ⟨wants_none rfl, OpT.conv (OpT.evs (ev' := evL [(1, va1)]) (opT_move (v := va1) rfl rfl) rfl [.tmp 1] rfl ⟨rfl, trivial⟩) rfl (fun _ h => Eq.trans h rfl) (fun _ => rfl)⟩, Plan.goal_run fun vs hf => ⟨wants_none rfl, OpT.conv (OpT.evs (ev' := evL [(5, .int .i64 s3)]) (opT_move (v := .int .i64 s3) rfl rfl) rfl [.tmp 5] rfl ⟨rfl, trivial⟩) rfl (fun _ h => Eq.trans h rfl) (fun _ => rfl)⟩, Plan.goal_run fun vs hf => ⟨wants_none rfl, OpT.conv (OpT.evs (ev' := evL [(22, va1), (23, .int .i64 s3)]) (opT_index_hd (xs := p1b) (i := s3) (n := 1) (Hd.of_rd ra1) Try.underlying34 ti3 rfl rfl rfl (getI_in e10)) rfl [.tmp 22, .tmp 23] rfl ⟨(hf 4 (mb rfl)), (hf 5 (mb rfl)), trivial⟩) rfl (fun _ h => Eq.trans h rfl) (fun _ => rfl)⟩, Plan.goal_run fun vs hf => ⟨wants_none rfl, OpT.conv (OpT.evs (ev' := evL [(24, pt va1 (s3.toNat * 1))]) (opT_load_el (S := rInt) (xs := p1b) (a := x10) (i := s3) (k := 1) (off := 0) (f := fun (x : Int) => x) ra1 e10 Fld.self ti3 rfl rfl rfl rfl rfl) rfl [.tmp 24] rfl ⟨(hf 6 (mb rfl)), trivial⟩) rfl (fun _ h => lds_one h) (fun _ => rfl)⟩, Plan.goal_run fun vs hf => ⟨wants_none rfl, OpT.conv (OpT.evs (ev' := evL [(21, .int .i64 x9), (25, .int .i64 x10)]) (opT_cmp (k := .i64) (m := x9) (n := x10) (c := decide (x9 < x10)) rfl rfl rfl rfl rfl) rfl [.tmp 21, .tmp 25] rfl ⟨(hf 3 (mb rfl)), (hf 7 (mb rfl)), trivial⟩) rfl (fun _ h => Eq.trans h rfl) (fun _ => rfl)⟩, trivial⟩
          intro vs a59 w59 hf A59 S59
          clear A58 S58
          replace A59 := A59.pick' (L' := [(0, va0), (1, va1), (5, .int .i64 s3), (26, .bool (decide (x9 < x10)))]) ⟨rfl, rfl, rfl, (congrArg some (show _ = _ from (hf 8 (Nat.le_of_ble_eq_true rfl)))), trivial⟩
          replace S59 : St I w0 w59 [F] := S59
          clear hf vs
          refine nrm ?_
          rcases two (decide (x9 < x10)) with hb11 | hb11
          · replace hm := ifFe hb11 hm
            refine cnd_false (b := decide (x9 < x10)) A59 rfl rfl hb11 ?_
            refine wp_skip ?_
            refine nrm ?_
            refine wp_seq ?_
            obtain ⟨x11, e11, hm⟩ := bind_some hm
            obtain ⟨x12, e12, hm⟩ := bind_some hm
            refine wp_draw (L := [(0, va0), (1, va1), (5, .int .i64 s3), (26, .bool (decide (x9 < x10)))]) (C := [F]) { ops := [⟨[], [], [], [0], fun | [xo0] => xo0 = va0 | _ => True, [(0, none)]⟩, ⟨[], [], [], [1], fun | [xo1] => xo1 = .int .i64 s3 | _ => True, [(5, none)]⟩, ⟨[], [], [], [2], fun | [xo2] => xo2 = pt va0 (s3.toNat * 1) | _ => True, [(27, some 0), (28, some 1)]⟩, ⟨[], [], [], [3], fun | [xo3] => xo3 = .int .i64 x11 | _ => True, [(29, some 2)]⟩, ⟨[], [], [], [4], fun | [xo4] => xo4 = va1 | _ => True, [(1, none)]⟩, ⟨[], [], [], [5], fun | [xo5] => xo5 = .int .i64 s3 | _ => True, [(5, none)]⟩, ⟨[], [], [], [6], fun | [xo6] => xo6 = pt va1 (s3.toNat * 1) | _ => True, [(31, some 4), (32, some 5)]⟩, ⟨[], [], [], [7], fun | [xo7] => xo7 = .int .i64 x12 | _ => True, [(33, some 6)]⟩, ⟨[], [], [], [8], fun | [xo8] => xo8 = .bool (decide (x11 > x12)) | _ => True, [(30, some 3), (34, some 7)]⟩], res := [], base := [], pre := [[], [], [0, 1], [0, 1, 2], [], [], [4, 5], [4, 5, 6], [0, 1, 2, 3, 4, 5, 6, 7]], fin := [(0, none), (1, none), (5, none), (35, some 8)], left := [] } (by kernel_rfl) A59 S59 (perm_sel [0] (m := 1) rfl rfl) (by kernel_rfl) (by kernel_rfl) ?_ ?_
            · exact ⟨Plan.goal_run fun vs hf => ⟨wants_none rfl, OpT.conv (OpT.evs (ev' := evL [(0, va0)]) (opT_move (v := va0) rfl rfl) rfl [.tmp 0] rfl ⟨rfl, trivial⟩) rfl (fun _ h => Eq.trans h rfl) (fun _ => rfl)⟩, Plan.goal_run fun vs hf => ⟨wants_none rfl, OpT.conv (OpT.evs (ev' := evL [(5, .int .i64 s3)]) (opT_move (v := .int .i64 s3) rfl rfl) rfl [.tmp 5] rfl ⟨rfl, trivial⟩) rfl (fun _ h => Eq.trans h rfl) (fun _ => rfl)⟩, Plan.goal_run fun vs hf => ⟨wants_none rfl, OpT.conv (OpT.evs (ev' := evL [(27, va0), (28, .int .i64 s3)]) (opT_index_hd (xs := p0a) (i := s3) (n := 1) (Hd.of_rd ra0) Try.underlying34 ti3 rfl rfl rfl (getI_in e11)) rfl [.tmp 27, .tmp 28] rfl ⟨(hf 0 (mb rfl)), (hf 1 (mb rfl)), trivial⟩) rfl (fun _ h => Eq.trans h rfl) (fun _ => rfl)⟩, Plan.goal_run fun vs hf => ⟨wants_none rfl, OpT.conv (OpT.evs (ev' := evL [(29, pt va0 (s3.toNat * 1))]) (opT_load_el (S := rInt) (xs := p0a) (a := x11) (i := s3) (k := 1) (off := 0) (f := fun (x : Int) => x) ra0 e11 Fld.self ti3 rfl rfl rfl rfl rfl) rfl [.tmp 29] rfl ⟨(hf 2 (mb rfl)), trivial⟩) rfl (fun _ h => lds_one h) (fun _ => rfl)⟩, Plan.goal_run fun vs hf => ⟨wants_none rfl, OpT.conv (OpT.evs (ev' := evL [(1, va1)]) (opT_move (v := va1) rfl rfl) rfl [.tmp 1] rfl ⟨rfl, trivial⟩) rfl (fun _ h => Eq.trans h rfl) (fun _ => rfl)⟩, Plan.goal_run fun vs hf => ⟨wants_none rfl, OpT.conv (OpT.evs (ev' := evL [(5, .int .i64 s3)]) (opT_move (v := .int .i64 s3) rfl rfl) rfl [.tmp 5] rfl ⟨rfl, trivial⟩) rfl (fun _ h => Eq.trans h rfl) (fun _ => rfl)⟩, Plan.goal_run fun vs hf => ⟨wants_none rfl, OpT.conv (OpT.evs (ev' := evL [(31, va1), (32, .int .i64 s3)]) (opT_index_hd (xs := p1b) (i := s3) (n := 1) (Hd.of_rd ra1) Try.underlying34 ti3 rfl rfl rfl (getI_in e12)) rfl [.tmp 31, .tmp 32] rfl ⟨(hf 4 (mb rfl)), (hf 5 (mb rfl)), trivial⟩) rfl (fun _ h => Eq.trans h rfl) (fun _ => rfl)⟩, Plan.goal_run fun vs hf => ⟨wants_none rfl, OpT.conv (OpT.evs (ev' := evL [(33, pt va1 (s3.toNat * 1))]) (opT_load_el (S := rInt) (xs := p1b) (a := x12) (i := s3) (k := 1) (off := 0) (f := fun (x : Int) => x) ra1 e12 Fld.self ti3 rfl rfl rfl rfl rfl) rfl [.tmp 33] rfl ⟨(hf 6 (mb rfl)), trivial⟩) rfl (fun _ h => lds_one h) (fun _ => rfl)⟩, Plan.goal_run fun vs hf => ⟨wants_none rfl, OpT.conv (OpT.evs (ev' := evL [(30, .int .i64 x11), (34, .int .i64 x12)]) (opT_cmp (k := .i64) (m := x11) (n := x12) (c := decide (x11 > x12)) rfl rfl rfl rfl rfl) rfl [.tmp 30, .tmp 34] rfl ⟨(hf 3 (mb rfl)), (hf 7 (mb rfl)), trivial⟩) rfl (fun _ h => Eq.trans h rfl) (fun _ => rfl)⟩, trivial⟩
            intro vs a60 w60 hf A60 S60
            clear A59 S59
            replace A60 := A60.pick' (L' := [(0, va0), (1, va1), (5, .int .i64 s3), (35, .bool (decide (x11 > x12)))]) ⟨rfl, rfl, rfl, (congrArg some (show _ = _ from (hf 8 (Nat.le_of_ble_eq_true rfl)))), trivial⟩
            replace S60 : St I w0 w60 [F] := S60
            clear hf vs
            refine nrm ?_
            rcases two (decide (x11 > x12)) with hb12 | hb12
            · replace hm := ifFe hb12 hm
              refine cnd_false (b := decide (x11 > x12)) A60 rfl rfl hb12 ?_
              refine wp_skip ?_
              refine nrmB ?_
              refine nrm ?_
              refine wp_region_lit ?_
              refine sv A60 S60 (opT_move (v := .int .i64 s3) rfl rfl) rfl rfl ?_
              clear A60 S60 a60 w60;intro a61 w61 A61 S61
              refine sv A61 S61 (opT_add (m := s3) (n := 1) rfl rfl rfl) rfl rfl ?_
              clear A61 S61 a61 w61;intro a62 w62 A62 S62
              refine sv A62 S62 (opT_assign (v := .int .i64 (IntKind.i64.wrap (s3 + 1))) rfl rfl) rfl rfl ?_
              clear A62 S62 a62 w62;intro a63 w63 A63 S63
              refine wpList_nil ?_
              replace A63 := A63.pick' (L' := [(0, va0), (1, va1), (5, .int .i64 (IntKind.i64.wrap (s3 + 1)))]) ⟨rfl, rfl, rfl, trivial⟩
              refine nrm ?_
              exact ⟨_, (Option.some.inj hm).symm, ⟨A63.pick' ⟨rfl, rfl, rfl, trivial⟩, St.sel S63 1 [0] rfl rfl⟩⟩
            · replace hm := ifTe hb12 hm
              refine cnd_true (b := decide (x11 > x12)) A60 rfl rfl hb12 ?_
              refine wp_seq ?_
              refine wp_region_lit ?_
              refine sv A60 S60 (opT_assign (v := .int .i64 1) rfl rfl) rfl rfl ?_
              clear A60 S60 a60 w60;intro a64 w64 A64 S64
              refine wpList_nil ?_
              replace A64 := A64.pick' (L' := [(4, .int .i64 1)]) ⟨rfl, trivial⟩
              refine nrm ?_
              refine wp_ret ?_
              refine blkR ?_
              refine thenR ?_
              refine thenR ?_
              refine blkR ?_
              refine thenR ?_
              refine thenR ?_
              replace hm := loopRet hm hf1 hc1
              obtain rfl := Option.some.inj hm
              exact ret_1 A64 rfl (res_tmp A64 rfl) ⟨_, rfl, rfl, _, Hp.le.rfl, St.sel (S64) 1 [0] rfl rfl⟩
          · replace hm := ifTe hb11 hm
            refine cnd_true (b := decide (x9 < x10)) A59 rfl rfl hb11 ?_
            refine wp_seq ?_
            refine wp_region_lit ?_
            refine sv A59 S59 (opT_assign (v := .int .i64 (-1)) rfl rfl) rfl rfl ?_
            clear A59 S59 a59 w59;intro a65 w65 A65 S65
            refine wpList_nil ?_
            replace A65 := A65.pick' (L' := [(4, .int .i64 (-1))]) ⟨rfl, trivial⟩
            refine nrm ?_
            refine wp_ret ?_
            refine thenR ?_
            refine blkR ?_
            refine thenR ?_
            refine thenR ?_
            refine blkR ?_
            refine thenR ?_
            refine thenR ?_
            replace hm := loopRet hm hf1 hc1
            obtain rfl := Option.some.inj hm
            exact ret_1 A65 rfl (res_tmp A65 rfl) ⟨_, rfl, rfl, _, Hp.le.rfl, St.sel (S65) 1 [0] rfl rfl⟩
  · rintro a66 w66 ⟨s4, ho1, A66, S66⟩
    replace hm := loopOut ho1 hc1
    clear ho1 hc1 hl1
    refine nrm ?_
    refine wp_seq ?_
    refine wp_seq ?_
    refine wp_region_lit ?_
    refine sv A66 S66 (opT_move (v := va0) rfl rfl) rfl rfl ?_
    clear A66 S66 a66 w66;intro a67 w67 A67 S67
    refine sv A67 S67 (opT_len_hd (v := va0) (n := p0a.length) (Hd.of_rd ra0) Try.underlying34 rfl rfl) rfl rfl ?_
    clear A67 S67 a67 w67;intro a68 w68 A68 S68
    refine sv A68 S68 (opT_move (v := va1) rfl rfl) rfl rfl ?_
    clear A68 S68 a68 w68;intro a69 w69 A69 S69
    refine sv A69 S69 (opT_len_hd (v := va1) (n := p1b.length) (Hd.of_rd ra1) Try.underlying34 rfl rfl) rfl rfl ?_
    clear A69 S69 a69 w69;intro a70 w70 A70 S70
    refine sv A70 S70 (opT_cmp (k := .i64) (m := (p0a.length : Int)) (n := (p1b.length : Int)) (c := decide ((p0a.length : Int) < (p1b.length : Int))) rfl rfl rfl rfl rfl) rfl rfl ?_
    clear A70 S70 a70 w70;intro a71 w71 A71 S71
    refine wpList_nil ?_
    replace A71 := A71.pick' (L' := [(0, va0), (1, va1), (40, .bool (decide ((p0a.length : Int) < (p1b.length : Int))))]) ⟨rfl, rfl, rfl, trivial⟩
    refine nrm ?_
    rcases two (decide ((p0a.length : Int) < (p1b.length : Int))) with hb13 | hb13
    · replace hm := ifFe hb13 hm
      refine cnd_false (b := decide ((p0a.length : Int) < (p1b.length : Int))) A71 rfl rfl hb13 ?_
      refine wp_skip ?_
      refine nrm ?_
      refine wp_seq ?_
      refine wp_seq ?_
      refine wp_region_lit ?_
      refine sv A71 S71 (opT_move (v := va0) rfl rfl) rfl rfl ?_
      clear A71 S71 a71 w71;intro a72 w72 A72 S72
      refine sv A72 S72 (opT_len_hd (v := va0) (n := p0a.length) (Hd.of_rd ra0) Try.underlying34 rfl rfl) rfl rfl ?_
      clear A72 S72 a72 w72;intro a73 w73 A73 S73
      refine sv A73 S73 (opT_move (v := va1) rfl rfl) rfl rfl ?_
      clear A73 S73 a73 w73;intro a74 w74 A74 S74
      refine sv A74 S74 (opT_len_hd (v := va1) (n := p1b.length) (Hd.of_rd ra1) Try.underlying34 rfl rfl) rfl rfl ?_
      clear A74 S74 a74 w74;intro a75 w75 A75 S75
      refine sv A75 S75 (opT_cmp (k := .i64) (m := (p0a.length : Int)) (n := (p1b.length : Int)) (c := decide ((p0a.length : Int) > (p1b.length : Int))) rfl rfl rfl rfl rfl) rfl rfl ?_
      clear A75 S75 a75 w75;intro a76 w76 A76 S76
      refine wpList_nil ?_
      replace A76 := A76.pick' (L' := [(45, .bool (decide ((p0a.length : Int) > (p1b.length : Int))))]) ⟨rfl, trivial⟩
      refine nrm ?_
      rcases two (decide ((p0a.length : Int) > (p1b.length : Int))) with hb14 | hb14
      · replace hm := ifFe hb14 hm
        refine cnd_false (b := decide ((p0a.length : Int) > (p1b.length : Int))) A76 rfl rfl hb14 ?_
        refine wp_skip ?_
        refine nrm ?_
        refine wp_seq ?_
        refine wp_region_lit ?_
        refine sv A76 S76 (opT_assign (v := .int .i64 0) rfl rfl) rfl rfl ?_
        clear A76 S76 a76 w76;intro a77 w77 A77 S77
        refine wpList_nil ?_
        replace A77 := A77.pick' (L' := [(4, .int .i64 0)]) ⟨rfl, trivial⟩
        refine nrm ?_
        refine wp_ret ?_
        obtain rfl := Option.some.inj hm
        exact ret_1 A77 rfl (res_tmp A77 rfl) ⟨_, rfl, rfl, _, Hp.le.rfl, St.sel (S77) 1 [0] rfl rfl⟩
      · replace hm := ifTe hb14 hm
        refine cnd_true (b := decide ((p0a.length : Int) > (p1b.length : Int))) A76 rfl rfl hb14 ?_
        refine wp_seq ?_
        refine wp_region_lit ?_
        refine sv A76 S76 (opT_assign (v := .int .i64 1) rfl rfl) rfl rfl ?_
        clear A76 S76 a76 w76;intro a78 w78 A78 S78
        refine wpList_nil ?_
        replace A78 := A78.pick' (L' := [(4, .int .i64 1)]) ⟨rfl, trivial⟩
        refine nrm ?_
        refine wp_ret ?_
        refine thenR ?_
        obtain rfl := Option.some.inj hm
        exact ret_1 A78 rfl (res_tmp A78 rfl) ⟨_, rfl, rfl, _, Hp.le.rfl, St.sel (S78) 1 [0] rfl rfl⟩
    · replace hm := ifTe hb13 hm
      refine cnd_true (b := decide ((p0a.length : Int) < (p1b.length : Int))) A71 rfl rfl hb13 ?_
      refine wp_seq ?_
      refine wp_region_lit ?_
      refine sv A71 S71 (opT_assign (v := .int .i64 (-1)) rfl rfl) rfl rfl ?_
      clear A71 S71 a71 w71;intro a79 w79 A79 S79
      refine wpList_nil ?_
      replace A79 := A79.pick' (L' := [(4, .int .i64 (-1))]) ⟨rfl, trivial⟩
      refine nrm ?_
      refine wp_ret ?_
      refine thenR ?_
      obtain rfl := Option.some.inj hm
      exact ret_1 A79 rfl (res_tmp A79 rfl) ⟨_, rfl, rfl, _, Hp.le.rfl, St.sel (S79) 1 [0] rfl rfl⟩
set_option maxHeartbeats 8000000 in
theorem c_g_slices_Equal_S_int_int (p0s1 : List Int) (p1s2 : List Int) (r : Bool) (hm : m_g_slices_Equal_S_int_int p0s1 p1s2 = some r) {I : Hp} {w0 : World} (va0 : Value) (va1 : Value) (ra0 : (rSlice 3 rInt).rd I [va0] p0s1) (ra1 : (rSlice 3 rInt).rd I [va1] p1s2) : Con Try.prog 109 #[va0, va1] I w0 [] (fun v => v = .bool r) (fun v => []) := by
  refine con_of_wp (n := 26) [(0, va0), (1, va1)] Try.func109 rfl rfl (Nat.le_of_ble_eq_true rfl) (args_all ⟨rfl, rfl, trivial⟩) (fun F w a ha hs => ?_) (fun v => trivial)
  unfold m_g_slices_Equal_S_int_int at hm
  refine wp_seq ?_
  refine wp_region_lit ?_
  refine sv ha hs (opT_assign (v := .bool false) rfl rfl) rfl rfl ?_
  clear ha hs a w;intro a1 w1 A1 S1
  refine wpList_nil ?_
  replace A1 := A1.pick' (L' := [(0, va0), (1, va1)]) ⟨rfl, rfl, trivial⟩
  refine nrm ?_
  refine wp_seq ?_
  refine wp_seq ?_
  refine wp_region_lit ?_
  refine sv A1 S1 (opT_move (v := va0) rfl rfl) rfl rfl ?_
  clear A1 S1 a1 w1;intro a2 w2 A2 S2
  refine sv A2 S2 (opT_len_hd (v := va0) (n := p0s1.length) (Hd.of_rd ra0) Try.underlying34 rfl rfl) rfl rfl ?_
  clear A2 S2 a2 w2;intro a3 w3 A3 S3
  refine sv A3 S3 (opT_move (v := va1) rfl rfl) rfl rfl ?_
  clear A3 S3 a3 w3;intro a4 w4 A4 S4
  refine sv A4 S4 (opT_len_hd (v := va1) (n := p1s2.length) (Hd.of_rd ra1) Try.underlying34 rfl rfl) rfl rfl ?_
  clear A4 S4 a4 w4;intro a5 w5 A5 S5
  refine sv A5 S5 (opT_cmp (k := .i64) (m := (p0s1.length : Int)) (n := (p1s2.length : Int)) (c := (p0s1.length : Int) != (p1s2.length : Int)) rfl rfl rfl rfl rfl) rfl rfl ?_
  clear A5 S5 a5 w5;intro a6 w6 A6 S6
  refine wpList_nil ?_
  replace A6 := A6.pick' (L' := [(0, va0), (1, va1), (10, .bool ((p0s1.length : Int) != (p1s2.length : Int)))]) ⟨rfl, rfl, rfl, trivial⟩
  refine nrm ?_
  rcases two ((p0s1.length : Int) != (p1s2.length : Int)) with hb1 | hb1
  · replace hm := ifFe hb1 hm
    refine cnd_false (b := (p0s1.length : Int) != (p1s2.length : Int)) A6 rfl rfl hb1 ?_
    refine wp_skip ?_
    refine nrm ?_
    refine wp_seq ?_
    refine wp_seq ?_
    refine wp_region_lit ?_
    refine sv A6 S6 (opT_move (v := va0) rfl rfl) rfl rfl ?_
    clear A6 S6 a6 w6;intro a7 w7 A7 S7
    refine sv A7 S7 (opT_len_hd (v := va0) (n := p0s1.length) (Hd.of_rd ra0) Try.underlying34 rfl rfl) rfl rfl ?_
    clear A7 S7 a7 w7;intro a8 w8 A8 S8
    refine sv A8 S8 (opT_move (v := .int .i64 0) rfl rfl) rfl rfl ?_
    clear A8 S8 a8 w8;intro a9 w9 A9 S9
    refine wpList_nil ?_
    replace A9 := A9.pick' (L' := [(0, va0), (1, va1), (12, .int .i64 (p0s1.length : Int)), (13, .int .i64 0)]) ⟨rfl, rfl, rfl, rfl, trivial⟩
    refine nrm ?_
    obtain ⟨o1, hl1, hc1⟩ := bindL_some hm
    refine wp_cut (fun a w => ∃ s4 : Int, o1 = .brk s4 ∧ Agr 26 a [] ∧ St I w0 w [F]) ?_ ?_
    · refine wp_block (wp_loopM (R := Bool) (S := Int) (fun s3 a w => Agr 26 a [(0, va0), (1, va1), (12, .int .i64 (p0s1.length : Int)), (13, .int .i64 s3)] ∧ St I w0 w [F]) hl1 ?_ ?_)
      · exact ⟨A9.pick' ⟨rfl, rfl, rfl, rfl, trivial⟩, St.sel S9 1 [0] rfl rfl⟩
      · rintro s3 o2 hm hf1 a22 w22 ⟨A22, S22⟩
        unfold m_g_slices_Equal_S_int_int_l0 at hm
        refine wp_seq ?_
        refine wp_region_lit ?_
        refine sv A22 S22 (opT_cmp (k := .i64) (m := s3) (n := (p0s1.length : Int)) (c := decide (s3 < (p0s1.length : Int))) rfl rfl rfl rfl rfl) rfl rfl ?_
        clear A22 S22 a22 w22;intro a23 w23 A23 S23
        refine wpList_nil ?_
        replace A23 := A23.pick' (L' := [(0, va0), (1, va1), (12, .int .i64 (p0s1.length : Int)), (13, .int .i64 s3), (14, .bool (decide (s3 < (p0s1.length : Int))))]) ⟨rfl, rfl, rfl, rfl, rfl, trivial⟩
        refine nrm ?_
        refine wp_seq ?_
        rcases two (decide (s3 < (p0s1.length : Int))) with hb6 | hb6
        · replace hm := ifFe hb6 hm
          refine cnd_false (b := decide (s3 < (p0s1.length : Int))) A23 rfl rfl hb6 ?_
          refine wp_exit ?_
          refine thenX ?_
          refine thenX ?_
          refine ex_in ?_
          refine nrm ?_
          exact ⟨_, loopBrk hm hf1, ⟨A23.pick' trivial, St.sel S23 1 [0] rfl rfl⟩⟩
        · replace hm := ifTe hb6 hm
          refine cnd_true (b := decide (s3 < (p0s1.length : Int))) A23 rfl rfl hb6 ?_
          refine wp_skip ?_
          refine nrm ?_
          refine wp_seq ?_
          refine wp_block ?_
          refine wp_seq ?_
          refine wp_region_lit ?_
          refine sv A23 S23 (opT_move (v := .int .i64 s3) rfl rfl) rfl rfl ?_
          clear A23 S23 a23 w23;intro a24 w24 A24 S24
          refine sv A24 S24 (opT_assign (v := .int .i64 s3) rfl rfl) rfl rfl ?_
          clear A24 S24 a24 w24;intro a25 w25 A25 S25
          refine wpList_nil ?_
          replace A25 := A25.pick' (L' := [(0, va0), (1, va1), (5, .int .i64 s3), (12, .int .i64 (p0s1.length : Int)), (13, .int .i64 s3)]) ⟨rfl, rfl, rfl, rfl, rfl, trivial⟩
          refine nrm ?_
          refine wp_seq ?_
          obtain ⟨x5, e5, hm⟩ := bind_some hm
          obtain ⟨x6, e6, hm⟩ := bind_some hm
          refine wp_draw (L := [(0, va0), (1, va1), (5, .int .i64 s3), (12, .int .i64 (p0s1.length : Int)), (13, .int .i64 s3)]) (C := [F]) { ops := [⟨[], [], [], [0], fun | [xo0] => xo0 = va0 | _ => True, [(0, none)]⟩, ⟨[], [], [], [1], fun | [xo1] => xo1 = .int .i64 s3 | _ => True, [(5, none)]⟩, ⟨[], [], [], [2], fun | [xo2] => xo2 = pt va0 (s3.toNat * 1) | _ => True, [(16, some 0), (17, some 1)]⟩, ⟨[], [], [], [3], fun | [xo3] => xo3 = .int .i64 x5 | _ => True, [(18, some 2)]⟩, ⟨[], [], [], [4], fun | [xo4] => xo4 = va1 | _ => True, [(1, none)]⟩, ⟨[], [], [], [5], fun | [xo5] => xo5 = .int .i64 s3 | _ => True, [(5, none)]⟩, ⟨[], [], [], [6], fun | [xo6] => xo6 = pt va1 (s3.toNat * 1) | _ => True, [(20, some 4), (21, some 5)]⟩, ⟨[], [], [], [7], fun | [xo7] => xo7 = .int .i64 x6 | _ => True, [(22, some 6)]⟩, ⟨[], [], [], [8], fun | [xo8] => xo8 = .bool (x5 != x6) | _ => True, [(19, some 3), (23, some 7)]⟩], res := [], base := [], pre := [[], [], [0, 1], [0, 1, 2], [], [], [4, 5], [4, 5, 6], [0, 1, 2, 3, 4, 5, 6, 7]], fin := [(0, none), (1, none), (12, none), (13, none), (24, some 8)], left := [] } (by kernel_rfl) A25 S25 (perm_sel [0] (m := 1) rfl rfl) (by kernel_rfl) (by kernel_rfl) ?_ ?_
          · exact ⟨Plan.goal_run fun vs hf => ⟨wants_none rfl, OpT.conv (OpT.evs (ev' := evL [(0, va0)]) (opT_move (v := va0) rfl rfl) rfl [.tmp 0] rfl ⟨rfl, trivial⟩) rfl (fun _ h => Eq.trans h rfl) (fun _ => rfl)⟩, Plan.goal_run fun vs hf => ⟨wants_none rfl, OpT.conv (OpT.evs (ev' := evL [(5, .int .i64 s3)]) (opT_move (v := .int .i64 s3) rfl rfl) rfl [.tmp 5] rfl ⟨rfl, trivial⟩) rfl (fun _ h => Eq.trans h rfl) (fun _ => rfl)⟩, Plan.goal_run fun vs hf => ⟨wants_none rfl, OpT.conv (OpT.evs (ev' := evL [(16, va0), (17, .int .i64 s3)]) (opT_index_hd (xs := p0s1) (i := s3) (n := 1) (Hd.of_rd ra0) Try.underlying34 ti3 rfl rfl rfl (getI_in e5)) rfl [.tmp 16, .tmp 17] rfl ⟨(hf 0 (mb rfl)), (hf 1 (mb rfl)), trivial⟩) rfl (fun _ h => Eq.trans h rfl) (fun _ => rfl)⟩, Plan.goal_run fun vs hf => ⟨wants_none rfl, OpT.conv (OpT.evs (ev' := evL [(18, pt va0 (s3.toNat * 1))]) (opT_load_el (S := rInt) (xs := p0s1) (a := x5) (i := s3) (k := 1) (off := 0) (f := fun (x : Int) => x) ra0 e5 Fld.self ti3 rfl rfl rfl rfl rfl) rfl [.tmp 18] rfl ⟨(hf 2 (mb rfl)), trivial⟩) rfl (fun _ h => lds_one h) (fun _ => rfl)⟩, Plan.goal_run fun vs hf => ⟨wants_none rfl, OpT.conv (OpT.evs (ev' := evL [(1, va1)]) (opT_move (v := va1) rfl rfl) rfl [.tmp 1] rfl ⟨rfl, trivial⟩) rfl (fun _ h => Eq.trans h rfl) (fun _ => rfl)⟩, Plan.goal_run fun vs hf => ⟨wants_none rfl, OpT.conv (OpT.evs (ev' := evL [(5, .int .i64 s3)]) (opT_move (v := .int .i64 s3) rfl rfl) rfl [.tmp 5] rfl ⟨rfl, trivial⟩) rfl (fun _ h => Eq.trans h rfl) (fun _ => rfl)⟩, Plan.goal_run fun vs hf => ⟨wants_none rfl, OpT.conv (OpT.evs (ev' := evL [(20, va1), (21, .int .i64 s3)]) (opT_index_hd (xs := p1s2) (i := s3) (n := 1) (Hd.of_rd ra1) Try.underlying34 ti3 rfl rfl rfl (getI_in e6)) rfl [.tmp 20, .tmp 21] rfl ⟨(hf 4 (mb rfl)), (hf 5 (mb rfl)), trivial⟩) rfl (fun _ h => Eq.trans h rfl) (fun _ => rfl)⟩, Plan.goal_run fun vs hf => ⟨wants_none rfl, OpT.conv (OpT.evs (ev' := evL [(22, pt va1 (s3.toNat * 1))]) (opT_load_el (S := rInt) (xs := p1s2) (a := x6) (i := s3) (k := 1) (off := 0) (f := fun (x : Int) => x) ra1 e6 Fld.self ti3 rfl rfl rfl rfl rfl) rfl [.tmp 22] rfl ⟨(hf 6 (mb rfl)), trivial⟩) rfl (fun _ h => lds_one h) (fun _ => rfl)⟩, Plan.goal_run fun vs hf => ⟨wants_none rfl, OpT.conv (OpT.evs (ev' := evL [(19, .int .i64 x5), (23, .int .i64 x6)]) (opT_cmp (k := .i64) (m := x5) (n := x6) (c := x5 != x6) rfl rfl rfl rfl rfl) rfl [.tmp 19, .tmp 23] rfl ⟨(hf 3 (mb rfl)), (hf 7 (mb rfl)), trivial⟩) rfl (fun _ h => Eq.trans h rfl) (fun _ => rfl)⟩, trivial⟩
          intro vs a26 w26 hf A26 S26
          clear A25 S25
          replace A26 := A26.pick' (L' := [(0, va0), (1, va1), (12, .int .i64 (p0s1.length : Int)), (13, .int .i64 s3), (24, .bool (x5 != x6))]) ⟨rfl, rfl, rfl, rfl, (congrArg some (show _ = _ from (hf 8 (Nat.le_of_ble_eq_true rfl)))), trivial⟩
          replace S26 : St I w0 w26 [F] := S26
          clear hf vs
          refine nrm ?_
          rcases two (x5 != x6) with hb7 | hb7
          · replace hm := ifFe hb7 hm
            refine cnd_false (b := x5 != x6) A26 rfl rfl hb7 ?_
            refine wp_skip ?_
            refine nrmB ?_
            refine nrm ?_
            refine wp_region_lit ?_
            refine sv A26 S26 (opT_add (m := s3) (n := 1) rfl rfl rfl) rfl rfl ?_
            clear A26 S26 a26 w26;intro a27 w27 A27 S27
            refine sv A27 S27 (opT_move (v := .int .i64 (IntKind.i64.wrap (s3 + 1))) rfl rfl) rfl rfl ?_
            clear A27 S27 a27 w27;intro a28 w28 A28 S28
            refine wpList_nil ?_
            replace A28 := A28.pick' (L' := [(0, va0), (1, va1), (12, .int .i64 (p0s1.length : Int)), (13, .int .i64 (IntKind.i64.wrap (s3 + 1)))]) ⟨rfl, rfl, rfl, rfl, trivial⟩
            refine nrm ?_
            exact ⟨_, (Option.some.inj hm).symm, ⟨A28.pick' ⟨rfl, rfl, rfl, rfl, trivial⟩, St.sel S28 1 [0] rfl rfl⟩⟩
          · replace hm := ifTe hb7 hm
            refine cnd_true (b := x5 != x6) A26 rfl rfl hb7 ?_
            refine wp_seq ?_
            refine wp_region_lit ?_
            refine sv A26 S26 (opT_assign (v := .bool false) rfl rfl) rfl rfl ?_
            clear A26 S26 a26 w26;intro a29 w29 A29 S29
            refine wpList_nil ?_
            replace A29 := A29.pick' (L' := [(4, .bool false)]) ⟨rfl, trivial⟩
            refine nrm ?_
            refine wp_ret ?_
            refine blkR ?_
            refine thenR ?_
            refine thenR ?_
            refine blkR ?_
            refine thenR ?_
            refine thenR ?_
            replace hm := loopRet hm hf1 hc1
            obtain rfl := Option.some.inj hm
            exact ret_1 A29 rfl (res_tmp A29 rfl) ⟨_, rfl, rfl, _, Hp.le.rfl, St.sel (S29) 1 [0] rfl rfl⟩
    · rintro a30 w30 ⟨s4, ho1, A30, S30⟩
      replace hm := loopOut ho1 hc1
      clear ho1 hc1 hl1
      refine nrm ?_
      refine wp_seq ?_
      refine wp_region_lit ?_
      refine sv A30 S30 (opT_assign (v := .bool true) rfl rfl) rfl rfl ?_
      clear A30 S30 a30 w30;intro a31 w31 A31 S31
      refine wpList_nil ?_
      replace A31 := A31.pick' (L' := [(4, .bool true)]) ⟨rfl, trivial⟩
      refine nrm ?_
      refine wp_ret ?_
      obtain rfl := Option.some.inj hm
      exact ret_1 A31 rfl (res_tmp A31 rfl) ⟨_, rfl, rfl, _, Hp.le.rfl, St.sel (S31) 1 [0] rfl rfl⟩
  · replace hm := ifTe hb1 hm
    refine cnd_true (b := (p0s1.length : Int) != (p1s2.length : Int)) A6 rfl rfl hb1 ?_
    refine wp_seq ?_
    refine wp_region_lit ?_
    refine sv A6 S6 (opT_assign (v := .bool false) rfl rfl) rfl rfl ?_
    clear A6 S6 a6 w6;intro a32 w32 A32 S32
    refine wpList_nil ?_
    replace A32 := A32.pick' (L' := [(4, .bool false)]) ⟨rfl, trivial⟩
    refine nrm ?_
    refine wp_ret ?_
    refine thenR ?_
    obtain rfl := Option.some.inj hm
    exact ret_1 A32 rfl (res_tmp A32 rfl) ⟨_, rfl, rfl, _, Hp.le.rfl, St.sel (S32) 1 [0] rfl rfl⟩
set_option maxHeartbeats 8000000 in
theorem c_s_l11Nothing (r : Int × (List Bool) × (List (List Int))) (hm : m_s_l11Nothing = some r) {I : Hp} {w0 : World} : Con Try.prog 93 #[] I w0 [] (fun v => ∃ h0 h1 : Value, v = .agg #[.int .i64 r.1, h0, h1]) (fun v => [Ch.own (rSlice 4 rBool) [vg v [1]] r.2.1, Ch.own (rSlice 34 (rSlice 3 rInt)) [vg v [2]] r.2.2]) := by
  refine con_of_wp (n := 15) [] Try.func93 rfl rfl (Nat.le_of_ble_eq_true rfl) (args_all trivial) (fun F w a ha hs => ?_) (fun v => ⟨dp_own (dp_slice dp_bool), dp_own (dp_slice (dp_slice dp_int)), trivial⟩)
  unfold m_s_l11Nothing at hm
  refine wp_seq ?_
  refine wp_region_lit ?_
  refine seq_op ha hs rfl (opT_alloc (l := [.int .i64 0, .slice none 0 0, .slice none 0 0]) tz27 rfl rfl) (List.Perm.refl _) rfl ?_
  rintro _ a1 w1 ⟨g1, rfl⟩ A1 (S1 : St I w0 w1 [Ch.blk g1 [.int .i64 0, .slice none 0 0, .slice none 0 0] 27, F])
  clear ha hs a w
  refine wpList_nil ?_
  replace A1 := A1.pick' (L' := [(0, .pointer (some ⟨g1, 0, none⟩))]) ⟨rfl, trivial⟩
  refine nrm ?_
  refine wp_seq ?_
  refine wp_region_lit ?_
  refine seq_op A1 S1 rfl (opT_lit0 (E := 3) (R := rInt) Try.underlying34 ti3 rfl) (List.Perm.refl _) rfl ?_
  rintro v1 a2 w2 - A2 (S2 : St I w0 w2 [Ch.own (rSlice 3 rInt) [v1] ([] : List Int), Ch.blk g1 [.int .i64 0, .slice none 0 0, .slice none 0 0] 27, F])
  clear A1 S1 a1 w1
  refine sv A2 S2 (opT_assign (v := v1) rfl rfl) rfl rfl ?_
  clear A2 S2 a2 w2;intro a3 w3 A3 S3
  refine wpList_nil ?_
  replace A3 := A3.pick' (L' := [(0, .pointer (some ⟨g1, 0, none⟩)), (1, v1)]) ⟨rfl, rfl, trivial⟩
  refine nrm ?_
  refine wp_seq ?_
  refine wp_seq ?_
  refine wp_region_lit ?_
  refine sv A3 S3 (opT_assign (v := .int .i64 0) rfl rfl) rfl rfl ?_
  clear A3 S3 a3 w3;intro a4 w4 A4 S4
  refine wpList_nil ?_
  replace A4 := A4.pick' (L' := [(0, .pointer (some ⟨g1, 0, none⟩)), (1, v1), (2, .int .i64 0)]) ⟨rfl, rfl, rfl, trivial⟩
  refine nrm ?_
  obtain ⟨o1, hl1, hc1⟩ := bindL_some hm
  refine wp_cut (fun a w => ∃ s4 : (List Int) × Int, o1 = .brk s4 ∧ ∃ v7 : Value, Agr 15 a [(0, .pointer (some ⟨g1, 0, none⟩)), (1, v7)] ∧ St I w0 w [Ch.own (rSlice 3 rInt) [v7] s4.1, Ch.blk g1 [.int .i64 0, .slice none 0 0, .slice none 0 0] 27, F]) ?_ ?_
  · refine wp_block (wp_loopM (R := Int × (List Bool) × (List (List Int))) (S := (List Int) × Int) (fun s3 a w => ∃ v8 : Value, Agr 15 a [(0, .pointer (some ⟨g1, 0, none⟩)), (1, v8), (2, .int .i64 s3.2)] ∧ St I w0 w [Ch.own (rSlice 3 rInt) [v8] s3.1, Ch.blk g1 [.int .i64 0, .slice none 0 0, .slice none 0 0] 27, F]) hl1 ?_ ?_)
    · exact ⟨v1, A4.pick' ⟨rfl, rfl, rfl, trivial⟩, St.sel S4 3 [0, 1, 2] rfl rfl⟩
    · rintro s3 o2 hm hf1 a23 w23 ⟨v8, A23, S23⟩
      unfold m_s_l11Nothing_l0 at hm
      refine wp_seq ?_
      refine wp_seq ?_
      refine wp_region_lit ?_
      refine sv A23 S23 (opT_move (v := .int .i64 s3.2) rfl rfl) rfl rfl ?_
      clear A23 S23 a23 w23;intro a24 w24 A24 S24
      refine sv A24 S24 (opT_cmp (k := .i64) (m := s3.2) (n := 9) (c := decide (s3.2 < 9)) rfl rfl rfl rfl rfl) rfl rfl ?_
      clear A24 S24 a24 w24;intro a25 w25 A25 S25
      refine wpList_nil ?_
      replace A25 := A25.pick' (L' := [(0, .pointer (some ⟨g1, 0, none⟩)), (1, v8), (2, .int .i64 s3.2), (5, .bool (decide (s3.2 < 9)))]) ⟨rfl, rfl, rfl, rfl, trivial⟩
      refine nrm ?_
      rcases two (decide (s3.2 < 9)) with hb3 | hb3
      · replace hm := ifFe hb3 hm
        refine cnd_false (b := decide (s3.2 < 9)) A25 rfl rfl hb3 ?_
        refine wp_exit ?_
        refine thenX ?_
        refine thenX ?_
        refine ex_in ?_
        refine nrm ?_
        exact ⟨_, loopBrk hm hf1, ⟨v8, A25.pick' ⟨rfl, rfl, trivial⟩, St.sel S25 3 [0, 1, 2] rfl rfl⟩⟩
      · replace hm := ifTe hb3 hm
        refine cnd_true (b := decide (s3.2 < 9)) A25 rfl rfl hb3 ?_
        refine wp_skip ?_
        refine nrm ?_
        refine wp_seq ?_
        refine wp_block ?_
        refine wp_region_lit ?_
        refine sv A25 S25 (opT_move (v := v8) rfl rfl) rfl rfl ?_
        clear A25 S25 a25 w25;intro a26 w26 A26 S26
        refine seq_op A26 S26 rfl (opT_lit_cpy (E := 3) (R := rInt) (S := rInt) [(.int .i64 (-1), [.int .i64 (-1)])] [-1] cpy_int (rd_all ⟨rfl, trivial⟩) Try.underlying34 tz3 (by decide) rfl (by decide) (by decide) rfl rfl rfl rfl (us_all ⟨⟨rfl, rfl⟩, trivial⟩)) (List.Perm.refl _) rfl ?_
        rintro v9 a27 w27 - A27 (S27 : St I w0 w27 [Ch.own (rSlice 3 rInt) [v9] ([-1]), Ch.own (rSlice 3 rInt) [v8] s3.1, Ch.blk g1 [.int .i64 0, .slice none 0 0, .slice none 0 0] 27, F])
        clear A26 S26 a26 w26
        obtain ⟨z3, e3, hm⟩ := bind_some hm
        refine seq_op A27 S27 rfl (opT_app (E := 3) (R := rInt) (s := v8) (u := v9) e3 Try.underlying34 tz3 rfl (by decide) rfl (by decide) rfl rfl rfl) (perm_sel [1, 0, 2, 3] (m := 4) rfl rfl) rfl ?_
        rintro v10 a28 w28 - A28 (S28 : St I w0 w28 [Ch.own (rSlice 3 rInt) [v10] z3, Ch.blk g1 [.int .i64 0, .slice none 0 0, .slice none 0 0] 27, F])
        clear A27 S27 a27 w27
        refine sv A28 S28 (opT_assign (v := v10) rfl rfl) rfl rfl ?_
        clear A28 S28 a28 w28;intro a29 w29 A29 S29
        refine wpList_nil ?_
        replace A29 := A29.pick' (L' := [(0, .pointer (some ⟨g1, 0, none⟩)), (1, v10), (2, .int .i64 s3.2)]) ⟨rfl, rfl, rfl, trivial⟩
        refine nrmB ?_
        refine nrm ?_
        refine wp_region_lit ?_
        refine sv A29 S29 (opT_move (v := .int .i64 s3.2) rfl rfl) rfl rfl ?_
        clear A29 S29 a29 w29;intro a30 w30 A30 S30
        refine sv A30 S30 (opT_add (m := s3.2) (n := 1) rfl rfl rfl) rfl rfl ?_
        clear A30 S30 a30 w30;intro a31 w31 A31 S31
        refine sv A31 S31 (opT_assign (v := .int .i64 (IntKind.i64.wrap (s3.2 + 1))) rfl rfl) rfl rfl ?_
        clear A31 S31 a31 w31;intro a32 w32 A32 S32
        refine wpList_nil ?_
        replace A32 := A32.pick' (L' := [(0, .pointer (some ⟨g1, 0, none⟩)), (1, v10), (2, .int .i64 (IntKind.i64.wrap (s3.2 + 1)))]) ⟨rfl, rfl, rfl, trivial⟩
        refine nrm ?_
        exact ⟨_, (Option.some.inj hm).symm, ⟨v10, A32.pick' ⟨rfl, rfl, rfl, trivial⟩, St.sel S32 3 [0, 1, 2] rfl rfl⟩⟩
  · rintro a33 w33 ⟨s4, ho1, v7, A33, S33⟩
    replace hm := loopOut ho1 hc1
    clear ho1 hc1 hl1
    refine nrm ?_
    refine wp_seq ?_
    refine wp_region_lit ?_
    refine seq_op A33 S33 rfl (opT_lit_cpy (E := 4) (R := rBool) (S := rBool) [(.bool false, [.bool false])] [false] cpy_bool (rd_all ⟨rfl, trivial⟩) Try.underlying22 tz4 (by decide) rfl (by decide) (by decide) rfl rfl rfl rfl (us_all ⟨⟨rfl, rfl⟩, trivial⟩)) (List.Perm.refl _) rfl ?_
    rintro v11 a34 w34 - A34 (S34 : St I w0 w34 [Ch.own (rSlice 4 rBool) [v11] ([false]), Ch.own (rSlice 3 rInt) [v7] s4.1, Ch.blk g1 [.int .i64 0, .slice none 0 0, .slice none 0 0] 27, F])
    clear A33 S33 a33 w33
    refine sv A34 S34 (opT_move (v := v7) rfl rfl) rfl rfl ?_
    clear A34 S34 a34 w34;intro a35 w35 A35 S35
    refine seq_op A35 S35 rfl (opT_lit (E := 34) (R := rSlice 3 rInt) [(v7, [v7])] [s4.1] Try.underlying23 tz34 (by decide) rfl (by decide) (by decide) rfl rfl rfl rfl (us_all ⟨⟨(Hd.cells (St.hd S35 1 rfl).1), rfl⟩, trivial⟩)) (perm_front (i := 1) rfl) rfl ?_
    rintro v12 a36 w36 - A36 (S36 : St I w0 w36 [Ch.own (rSlice 34 (rSlice 3 rInt)) [v12] ([s4.1]), Ch.own (rSlice 4 rBool) [v11] ([false]), Ch.blk g1 [.int .i64 0, .slice none 0 0, .slice none 0 0] 27, F])
    clear A35 S35 a35 w35
    refine sv A36 S36 (opT_build (zl := [.int .i64 0, .slice none 0 0, .slice none 0 0]) (r := [.int .i64 0, v11, v12]) [(1, [v11]), (2, [v12])] tb27 tz27 rfl rfl ⟨rfl, (Hd.cells (St.hd S36 1 rfl).1), rfl, (Hd.cells (St.hd S36 0 rfl).1), trivial⟩ rfl) rfl rfl ?_
    clear A36 S36 a36 w36;intro a37 w37 A37 S37
    refine seq_op A37 S37 rfl (opT_store_blk (g := g1) (off := 0) (l := [.int .i64 0, .slice none 0 0, .slice none 0 0]) (d := [.int .i64 0, v11, v12]) (E := 27) (u := .agg #[.int .i64 0, v11, v12]) ti27 rfl rfl rfl rfl rfl (allC rfl (allC (Hd.one (St.hd S37 1 rfl).1) (allC (Hd.one (St.hd S37 0 rfl).1) allN))) (Nat.le_of_ble_eq_true rfl)) (perm_front (i := 2) rfl) rfl ?_
    rintro _ a38 w38 - A38 (S38 : St I w0 w38 [Ch.blk g1 [.int .i64 0, v11, v12] 27, Ch.own (rSlice 34 (rSlice 3 rInt)) [v12] ([s4.1]), Ch.own (rSlice 4 rBool) [v11] ([false]), F])
    clear A37 S37 a37 w37
    refine wpList_nil ?_
    replace A38 := A38.pick' (L' := [(0, .pointer (some ⟨g1, 0, none⟩))]) ⟨rfl, trivial⟩
    refine nrm ?_
    refine wp_ret ?_
    obtain rfl := Option.some.inj hm
    exact ret_1 A38 rfl (res_cell (g := g1) A38 rfl S38 0 rfl ti27 rfl) ⟨_, rfl, ⟨_, _, rfl⟩, _, Hp.le.rfl, St.sel (S38) 4 [2, 1, 3] rfl rfl⟩
set_option maxHeartbeats 8000000 in
theorem c_w_heldIntS (p0a : List Int) (p1k : Int) (r : Int) (hm : m_w_heldIntS p0a p1k = some r) {I : Hp} {w0 : World} (va0 : Value) (ra0 : (rSlice 3 rInt).rd I [va0] p0a) : Con Try.prog 103 #[va0, .int .i64 p1k] I w0 [] (fun v => v = .int .i64 r) (fun v => []) := by
  refine con_of_wp (n := 21) [(0, va0), (1, .int .i64 p1k)] Try.func103 rfl rfl (Nat.le_of_ble_eq_true rfl) (args_all ⟨rfl, rfl, trivial⟩) (fun F w a ha hs => ?_) (fun v => trivial)
  unfold m_w_heldIntS at hm
  refine wp_seq ?_
  refine wp_region_lit ?_
  refine sv ha hs (opT_assign (v := .int .i64 0) rfl rfl) rfl rfl ?_
  clear ha hs a w;intro a1 w1 A1 S1
  refine wpList_nil ?_
  replace A1 := A1.pick' (L' := [(0, va0), (1, .int .i64 p1k)]) ⟨rfl, rfl, trivial⟩
  refine nrm ?_
  refine wp_seq ?_
  refine wp_seq ?_
  refine wp_region_lit ?_
  refine sv A1 S1 (opT_assign (v := .int .i64 0) rfl rfl) rfl rfl ?_
  clear A1 S1 a1 w1;intro a2 w2 A2 S2
  refine wpList_nil ?_
  replace A2 := A2.pick' (L' := [(0, va0), (1, .int .i64 p1k), (5, .int .i64 0)]) ⟨rfl, rfl, rfl, trivial⟩
  refine nrm ?_
  obtain ⟨o1, hl1, hc1⟩ := bindL_some hm
  refine wp_cut (fun a w => ∃ s4 : Int × Int, o1 = .brk s4 ∧ Agr 21 a [(1, .int .i64 s4.1)] ∧ St I w0 w [F]) ?_ ?_
  · refine wp_block (wp_loopM (R := Int) (S := Int × Int) (fun s3 a w => Agr 21 a [(0, va0), (1, .int .i64 s3.1), (5, .int .i64 s3.2)] ∧ St I w0 w [F]) hl1 ?_ ?_)
    · exact ⟨A2.pick' ⟨rfl, rfl, rfl, trivial⟩, St.sel S2 1 [0] rfl rfl⟩
    · rintro s3 o2 hm hf1 a37 w37 ⟨A37, S37⟩
      unfold m_w_heldIntS_l0 at hm
      refine wp_seq ?_
      refine wp_seq ?_
      refine wp_region_lit ?_
      refine sv A37 S37 (opT_move (v := .int .i64 s3.2) rfl rfl) rfl rfl ?_
      clear A37 S37 a37 w37;intro a38 w38 A38 S38
      refine sv A38 S38 (opT_move (v := va0) rfl rfl) rfl rfl ?_
      clear A38 S38 a38 w38;intro a39 w39 A39 S39
      refine sv A39 S39 (opT_len_hd (v := va0) (n := p0a.length) (Hd.of_rd ra0) Try.underlying34 rfl rfl) rfl rfl ?_
      clear A39 S39 a39 w39;intro a40 w40 A40 S40
      refine sv A40 S40 (opT_cmp (k := .i64) (m := s3.2) (n := (p0a.length : Int)) (c := decide (s3.2 < (p0a.length : Int))) rfl rfl rfl rfl rfl) rfl rfl ?_
      clear A40 S40 a40 w40;intro a41 w41 A41 S41
      refine wpList_nil ?_
      replace A41 := A41.pick' (L' := [(0, va0), (1, .int .i64 s3.1), (5, .int .i64 s3.2), (9, .bool (decide (s3.2 < (p0a.length : Int))))]) ⟨rfl, rfl, rfl, rfl, trivial⟩
      refine nrm ?_
      rcases two (decide (s3.2 < (p0a.length : Int))) with hb5 | hb5
      · replace hm := ifFe hb5 hm
        refine cnd_false (b := decide (s3.2 < (p0a.length : Int))) A41 rfl rfl hb5 ?_
        refine wp_exit ?_
        refine thenX ?_
        refine thenX ?_
        refine ex_in ?_
        refine nrm ?_
        exact ⟨_, loopBrk hm hf1, ⟨A41.pick' ⟨rfl, trivial⟩, St.sel S41 1 [0] rfl rfl⟩⟩
      · replace hm := ifTe hb5 hm
        refine cnd_true (b := decide (s3.2 < (p0a.length : Int))) A41 rfl rfl hb5 ?_
        refine wp_skip ?_
        refine nrm ?_
        refine wp_seq ?_
        refine wp_block ?_
        refine wp_seq ?_
        refine wp_seq ?_
        refine wp_region_lit ?_
        refine sv A41 S41 (opT_move (v := va0) rfl rfl) rfl rfl ?_
        clear A41 S41 a41 w41;intro a42 w42 A42 S42
        refine sv A42 S42 (opT_move (v := .int .i64 s3.2) rfl rfl) rfl rfl ?_
        clear A42 S42 a42 w42;intro a43 w43 A43 S43
        obtain ⟨x3, e3, hm⟩ := bind_some hm
        refine sv A43 S43 (opT_index_hd (xs := p0a) (i := s3.2) (n := 1) (Hd.of_rd ra0) Try.underlying34 ti3 rfl rfl rfl (getI_in e3)) rfl rfl ?_
        clear A43 S43 a43 w43;intro a44 w44 A44 S44
        refine seq_op0 A44 S44 (opT_load_el (S := rInt) (xs := p0a) (a := x3) (i := s3.2) (k := 1) (off := 0) (f := fun (x : Int) => x) ra0 e3 Fld.self ti3 rfl rfl rfl rfl rfl) rfl rfl ?_
        rintro u a45 w45 hf A45 S45
        obtain rfl := lds_one hf
        clear A44 S44 a44 w44
        refine sv A45 S45 (opT_move (v := .int .i64 s3.1) rfl rfl) rfl rfl ?_
        clear A45 S45 a45 w45;intro a46 w46 A46 S46
        refine sv A46 S46 (opT_cmp (k := .i64) (m := x3) (n := s3.1) (c := x3 != s3.1) rfl rfl rfl rfl rfl) rfl rfl ?_
        clear A46 S46 a46 w46;intro a47 w47 A47 S47
        refine wpList_nil ?_
        replace A47 := A47.pick' (L' := [(0, va0), (1, .int .i64 s3.1), (5, .int .i64 s3.2), (17, .bool (x3 != s3.1))]) ⟨rfl, rfl, rfl, rfl, trivial⟩
        refine nrm ?_
        rcases two (x3 != s3.1) with hb6 | hb6
        · replace hm := ifFe hb6 hm
          refine cnd_false (b := x3 != s3.1) A47 rfl rfl hb6 ?_
          refine wp_skip ?_
          refine nrm ?_
          refine wp_region_lit ?_
          refine sv A47 S47 (opT_move (v := .int .i64 s3.1) rfl rfl) rfl rfl ?_
          clear A47 S47 a47 w47;intro a48 w48 A48 S48
          refine sv A48 S48 (opT_add (m := s3.1) (n := 1) rfl rfl rfl) rfl rfl ?_
          clear A48 S48 a48 w48;intro a49 w49 A49 S49
          refine sv A49 S49 (opT_assign (v := .int .i64 (IntKind.i64.wrap (s3.1 + 1))) rfl rfl) rfl rfl ?_
          clear A49 S49 a49 w49;intro a50 w50 A50 S50
          refine wpList_nil ?_
          replace A50 := A50.pick' (L' := [(0, va0), (1, .int .i64 (IntKind.i64.wrap (s3.1 + 1))), (5, .int .i64 s3.2)]) ⟨rfl, rfl, rfl, trivial⟩
          refine nrmB ?_
          refine nrm ?_
          refine wp_region_lit ?_
          refine sv A50 S50 (opT_move (v := .int .i64 s3.2) rfl rfl) rfl rfl ?_
          clear A50 S50 a50 w50;intro a51 w51 A51 S51
          refine sv A51 S51 (opT_add (m := s3.2) (n := 1) rfl rfl rfl) rfl rfl ?_
          clear A51 S51 a51 w51;intro a52 w52 A52 S52
          refine sv A52 S52 (opT_assign (v := .int .i64 (IntKind.i64.wrap (s3.2 + 1))) rfl rfl) rfl rfl ?_
          clear A52 S52 a52 w52;intro a53 w53 A53 S53
          refine wpList_nil ?_
          replace A53 := A53.pick' (L' := [(0, va0), (1, .int .i64 (IntKind.i64.wrap (s3.1 + 1))), (5, .int .i64 (IntKind.i64.wrap (s3.2 + 1)))]) ⟨rfl, rfl, rfl, trivial⟩
          refine nrm ?_
          exact ⟨_, (Option.some.inj hm).symm, ⟨A53.pick' ⟨rfl, rfl, rfl, trivial⟩, St.sel S53 1 [0] rfl rfl⟩⟩
        · replace hm := ifTe hb6 hm
          refine cnd_true (b := x3 != s3.1) A47 rfl rfl hb6 ?_
          refine wp_seq ?_
          refine wp_region_lit ?_
          refine sv A47 S47 (opT_assign (v := .int .i64 (-1)) rfl rfl) rfl rfl ?_
          clear A47 S47 a47 w47;intro a54 w54 A54 S54
          refine wpList_nil ?_
          replace A54 := A54.pick' (L' := [(4, .int .i64 (-1))]) ⟨rfl, trivial⟩
          refine nrm ?_
          refine wp_ret ?_
          refine thenR ?_
          refine blkR ?_
          refine thenR ?_
          refine thenR ?_
          refine blkR ?_
          refine thenR ?_
          refine thenR ?_
          replace hm := loopRet hm hf1 hc1
          obtain rfl := Option.some.inj hm
          exact ret_1 A54 rfl (res_tmp A54 rfl) ⟨_, rfl, rfl, _, Hp.le.rfl, St.sel (S54) 1 [0] rfl rfl⟩
  · rintro a55 w55 ⟨s4, ho1, A55, S55⟩
    replace hm := loopOut ho1 hc1
    clear ho1 hc1 hl1
    refine nrm ?_
    refine wp_seq ?_
    refine wp_region_lit ?_
    refine sv A55 S55 (opT_move (v := .int .i64 s4.1) rfl rfl) rfl rfl ?_
    clear A55 S55 a55 w55;intro a56 w56 A56 S56
    refine sv A56 S56 (opT_assign (v := .int .i64 s4.1) rfl rfl) rfl rfl ?_
    clear A56 S56 a56 w56;intro a57 w57 A57 S57
    refine wpList_nil ?_
    replace A57 := A57.pick' (L' := [(4, .int .i64 s4.1)]) ⟨rfl, trivial⟩
    refine nrm ?_
    refine wp_ret ?_
    obtain rfl := Option.some.inj hm
    exact ret_1 A57 rfl (res_tmp A57 rfl) ⟨_, rfl, rfl, _, Hp.le.rfl, St.sel (S57) 1 [0] rfl rfl⟩
set_option maxHeartbeats 8000000 in
theorem c_w_toIntS (p0a : List Int) (r : List Int) (hm : m_w_toIntS p0a = some r) {I : Hp} {w0 : World} (va0 : Value) (ra0 : (rSlice 3 rInt).rd I [va0] p0a) : Con Try.prog 66 #[va0] I w0 [] (fun v => True) (fun v => [Ch.own (rSlice 3 rInt) [v] r]) := by
  refine con_of_wp (n := 22) [(0, va0)] Try.func66 rfl rfl (Nat.le_of_ble_eq_true rfl) (args_all ⟨rfl, trivial⟩) (fun F w a ha hs => ?_) (fun v => ⟨dp_own (dp_slice dp_int), trivial⟩)
  unfold m_w_toIntS at hm
  refine wp_seq ?_
  refine wp_region_lit ?_
  refine sv ha hs (opT_assign (v := .slice none 0 0) rfl rfl) rfl rfl ?_
  clear ha hs a w;intro a1 w1 A1 S1
  refine wpList_nil ?_
  replace A1 := A1.pick' (L' := [(0, va0)]) ⟨rfl, trivial⟩
  refine nrm ?_
  refine wp_seq ?_
  refine wp_region_lit ?_
  refine sv A1 S1 (opT_move (v := va0) rfl rfl) rfl rfl ?_
  clear A1 S1 a1 w1;intro a2 w2 A2 S2
  refine sv A2 S2 (opT_len_hd (v := va0) (n := p0a.length) (Hd.of_rd ra0) Try.underlying34 rfl rfl) rfl rfl ?_
  clear A2 S2 a2 w2;intro a3 w3 A3 S3
  obtain ⟨x1, hk1, hm⟩ := bind_some hm
  refine seq_op A3 S3 rfl (opT_mk (E := 3) (R := rInt) (zv := .int .i64 0) (z := (0 : Int)) zro_flat Try.underlying34 tz3 rfl rfl (by decide) (by decide) rfl rfl hk1) (List.Perm.refl _) rfl ?_
  rintro v1 a4 w4 - A4 (S4 : St I w0 w4 [Ch.own (rSlice 3 rInt) [v1] x1, F])
  clear A3 S3 a3 w3
  refine sv A4 S4 (opT_assign (v := v1) rfl rfl) rfl rfl ?_
  clear A4 S4 a4 w4;intro a5 w5 A5 S5
  refine wpList_nil ?_
  replace A5 := A5.pick' (L' := [(0, va0), (3, v1)]) ⟨rfl, rfl, trivial⟩
  refine nrm ?_
  refine wp_seq ?_
  refine wp_seq ?_
  refine wp_region_lit ?_
  refine sv A5 S5 (opT_assign (v := .int .i64 0) rfl rfl) rfl rfl ?_
  clear A5 S5 a5 w5;intro a6 w6 A6 S6
  refine wpList_nil ?_
  replace A6 := A6.pick' (L' := [(0, va0), (3, v1), (4, .int .i64 0)]) ⟨rfl, rfl, rfl, trivial⟩
  refine nrm ?_
  obtain ⟨o1, hl1, hc1⟩ := bindL_some hm
  refine wp_cut (fun a w => ∃ s4 : (List Int) × Int, o1 = .brk s4 ∧ Agr 22 a [(3, v1)] ∧ St I w0 w [Ch.own (rSlice 3 rInt) [v1] s4.1, F]) ?_ ?_
  · refine wp_block (wp_loopM (R := List Int) (S := (List Int) × Int) (fun s3 a w => Agr 22 a [(0, va0), (3, v1), (4, .int .i64 s3.2)] ∧ St I w0 w [Ch.own (rSlice 3 rInt) [v1] s3.1, F]) hl1 ?_ ?_)
    · exact ⟨A6.pick' ⟨rfl, rfl, rfl, trivial⟩, St.sel S6 2 [0, 1] rfl rfl⟩
    · rintro s3 o2 hm hf1 a37 w37 ⟨A37, S37⟩
      unfold m_w_toIntS_l0 at hm
      refine wp_seq ?_
      refine wp_seq ?_
      refine wp_region_lit ?_
      refine sv A37 S37 (opT_move (v := .int .i64 s3.2) rfl rfl) rfl rfl ?_
      clear A37 S37 a37 w37;intro a38 w38 A38 S38
      refine sv A38 S38 (opT_move (v := va0) rfl rfl) rfl rfl ?_
      clear A38 S38 a38 w38;intro a39 w39 A39 S39
      refine sv A39 S39 (opT_len_hd (v := va0) (n := p0a.length) (Hd.of_rd ra0) Try.underlying34 rfl rfl) rfl rfl ?_
      clear A39 S39 a39 w39;intro a40 w40 A40 S40
      refine sv A40 S40 (opT_cmp (k := .i64) (m := s3.2) (n := (p0a.length : Int)) (c := decide (s3.2 < (p0a.length : Int))) rfl rfl rfl rfl rfl) rfl rfl ?_
      clear A40 S40 a40 w40;intro a41 w41 A41 S41
      refine wpList_nil ?_
      replace A41 := A41.pick' (L' := [(0, va0), (3, v1), (4, .int .i64 s3.2), (11, .bool (decide (s3.2 < (p0a.length : Int))))]) ⟨rfl, rfl, rfl, rfl, trivial⟩
      refine nrm ?_
      rcases two (decide (s3.2 < (p0a.length : Int))) with hb3 | hb3
      · replace hm := ifFe hb3 hm
        refine cnd_false (b := decide (s3.2 < (p0a.length : Int))) A41 rfl rfl hb3 ?_
        refine wp_exit ?_
        refine thenX ?_
        refine thenX ?_
        refine ex_in ?_
        refine nrm ?_
        exact ⟨_, loopBrk hm hf1, ⟨A41.pick' ⟨rfl, trivial⟩, St.sel S41 2 [0, 1] rfl rfl⟩⟩
      · replace hm := ifTe hb3 hm
        refine cnd_true (b := decide (s3.2 < (p0a.length : Int))) A41 rfl rfl hb3 ?_
        refine wp_skip ?_
        refine nrm ?_
        refine wp_seq ?_
        refine wp_block ?_
        refine wp_region_lit ?_
        refine sv A41 S41 (opT_move (v := v1) rfl rfl) rfl rfl ?_
        clear A41 S41 a41 w41;intro a42 w42 A42 S42
        refine sv A42 S42 (opT_move (v := .int .i64 s3.2) rfl rfl) rfl rfl ?_
        clear A42 S42 a42 w42;intro a43 w43 A43 S43
        refine sv A43 S43 (opT_move (v := va0) rfl rfl) rfl rfl ?_
        clear A43 S43 a43 w43;intro a44 w44 A44 S44
        refine sv A44 S44 (opT_move (v := .int .i64 s3.2) rfl rfl) rfl rfl ?_
        clear A44 S44 a44 w44;intro a45 w45 A45 S45
        obtain ⟨x6, e5, hm⟩ := bind_some hm
        refine sv A45 S45 (opT_index_hd (xs := p0a) (i := s3.2) (n := 1) (Hd.of_rd ra0) Try.underlying34 ti3 rfl rfl rfl (getI_in e5)) rfl rfl ?_
        clear A45 S45 a45 w45;intro a46 w46 A46 S46
        refine seq_op0 A46 S46 (opT_load_el (S := rInt) (xs := p0a) (a := x6) (i := s3.2) (k := 1) (off := 0) (f := fun (x : Int) => x) ra0 e5 Fld.self ti3 rfl rfl rfl rfl rfl) rfl rfl ?_
        rintro u a47 w47 hf A47 S47
        obtain rfl := lds_one hf
        clear A46 S46 a46 w46
        obtain ⟨x7, e6, hm⟩ := bind_some hm
        refine sv A47 S47 (opT_index_hd (xs := s3.1) (i := s3.2) (n := 1) (St.hd S47 0 rfl).1 Try.underlying34 ti3 rfl rfl rfl (getI_in e6)) rfl rfl ?_
        clear A47 S47 a47 w47;intro a48 w48 A48 S48
        refine seq_op A48 S48 rfl (opT_store_el (E := 3) (R := rInt) (S := rInt) (xs := s3.1) (a := x7) (b := x6) (i := s3.2) (k := 1) (off := 0) (f := fun x y => y) (v := v1) (d := [.int .i64 x6]) (u := .int .i64 x6) sh_int cpy_int e6 Upd.self ti3 rfl rfl rfl rfl (allC rfl allN) rfl rfl (by decide) rfl) (perm_front (i := 0) rfl) rfl ?_
        rintro _ a49 w49 - A49 (S49 : St I w0 w49 [Ch.own (rSlice 3 rInt) [v1] (s3.1.set s3.2.toNat x6), F])
        clear A48 S48 a48 w48
        refine wpList_nil ?_
        replace A49 := A49.pick' (L' := [(0, va0), (3, v1), (4, .int .i64 s3.2)]) ⟨rfl, rfl, rfl, trivial⟩
        refine nrmB ?_
        refine nrm ?_
        refine wp_region_lit ?_
        refine sv A49 S49 (opT_move (v := .int .i64 s3.2) rfl rfl) rfl rfl ?_
        clear A49 S49 a49 w49;intro a50 w50 A50 S50
        refine sv A50 S50 (opT_add (m := s3.2) (n := 1) rfl rfl rfl) rfl rfl ?_
        clear A50 S50 a50 w50;intro a51 w51 A51 S51
        refine sv A51 S51 (opT_assign (v := .int .i64 (IntKind.i64.wrap (s3.2 + 1))) rfl rfl) rfl rfl ?_
        clear A51 S51 a51 w51;intro a52 w52 A52 S52
        refine wpList_nil ?_
        replace A52 := A52.pick' (L' := [(0, va0), (3, v1), (4, .int .i64 (IntKind.i64.wrap (s3.2 + 1)))]) ⟨rfl, rfl, rfl, trivial⟩
        refine nrm ?_
        exact ⟨_, (Option.some.inj hm).symm, ⟨A52.pick' ⟨rfl, rfl, rfl, trivial⟩, St.sel S52 2 [0, 1] rfl rfl⟩⟩
  · rintro a53 w53 ⟨s4, ho1, A53, S53⟩
    replace hm := loopOut ho1 hc1
    clear ho1 hc1 hl1
    refine nrm ?_
    refine wp_seq ?_
    refine wp_region_lit ?_
    refine sv A53 S53 (opT_move (v := v1) rfl rfl) rfl rfl ?_
    clear A53 S53 a53 w53;intro a54 w54 A54 S54
    refine sv A54 S54 (opT_assign (v := v1) rfl rfl) rfl rfl ?_
    clear A54 S54 a54 w54;intro a55 w55 A55 S55
    refine wpList_nil ?_
    replace A55 := A55.pick' (L' := [(2, v1)]) ⟨rfl, trivial⟩
    refine nrm ?_
    refine wp_ret ?_
    obtain rfl := Option.some.inj hm
    exact ret_1 A55 rfl (res_tmp A55 rfl) ⟨_, rfl, trivial, _, Hp.le.rfl, St.sel (S55) 2 [0, 1] rfl rfl⟩
set_option maxHeartbeats 8000000 in
theorem c_i_Automaton_minimize_2 (p0c : Int) (q0 : Int × (List Bool) × (List (List Int))) (q1 : Int → Option Int) (r : Bool) (hm : m_i_Automaton_minimize_2 p0c q0 q1 = some r) {I : Hp} {w0 : World} (g0_0 : Nat) (va1 : Value) (va2 : Value) (g0_1 : Nat) (va4 : Value) (rb0 : I g0_0 = some (.cells #[.int .i64 q0.1, va1, va2] 27 (0, 0))) (ra1 : (rSlice 4 rBool).rd I [va1] q0.2.1) (ra2 : (rSlice 34 (rSlice 3 rInt)).rd I [va2] q0.2.2) (rb1 : I g0_1 = some (.cells #[va4] 122 (0, 0))) (ra4 : fn122 w0 I va4 q1) : Con Try.prog 113 #[.int .i64 p0c, .pointer (some ⟨g0_0, 0, none⟩), .pointer (some ⟨g0_1, 0, none⟩)] I w0 [] (fun v => v = .bool r) (fun v => []) := by
  refine con_of_wp (n := 12) [(0, .int .i64 p0c), (1, .pointer (some ⟨g0_0, 0, none⟩)), (2, .pointer (some ⟨g0_1, 0, none⟩))] Try.func113 rfl rfl (Nat.le_of_ble_eq_true rfl) (args_all ⟨rfl, rfl, rfl, trivial⟩) (fun F w a ha hs => ?_) (fun v => trivial)
  unfold m_i_Automaton_minimize_2 at hm
  refine wp_seq ?_
  refine wp_region_lit ?_
  refine sv ha hs (opT_assign (v := .bool false) rfl rfl) rfl rfl ?_
  clear ha hs a w;intro a1 w1 A1 S1
  refine wpList_nil ?_
  replace A1 := A1.pick' (L' := [(0, .int .i64 p0c), (1, .pointer (some ⟨g0_0, 0, none⟩)), (2, .pointer (some ⟨g0_1, 0, none⟩))]) ⟨rfl, rfl, rfl, trivial⟩
  refine nrm ?_
  refine wp_seq ?_
  obtain ⟨r1, e1, hm⟩ := bind_some hm
  obtain ⟨x1, e2, hm⟩ := bind_some hm
  refine wp_draw (L := [(0, .int .i64 p0c), (1, .pointer (some ⟨g0_0, 0, none⟩)), (2, .pointer (some ⟨g0_1, 0, none⟩))]) (C := [F]) { ops := [⟨[], [], [], [0], fun | [xo0] => xo0 = .pointer (some ⟨g0_0, 1, none⟩) | _ => True, [(1, none)]⟩, ⟨[], [], [], [1], fun | [xo1] => xo1 = va1 | _ => True, [(5, some 0)]⟩, ⟨[], [], [], [2], fun | [xo2] => xo2 = va4 | _ => True, [(2, none)]⟩, ⟨[], [], [], [3], fun | [xo3] => xo3 = .int .i64 p0c | _ => True, [(0, none)]⟩, ⟨[], [], [], [4], fun | [xo4] => xo4 = .int .i64 r1 | _ => True, [(7, some 2), (8, some 3)]⟩, ⟨[], [], [], [5], fun | [xo5] => xo5 = pt va1 (r1.toNat * 1) | _ => True, [(6, some 1), (9, some 4)]⟩, ⟨[], [], [], [6], fun | [xo6] => xo6 = .bool x1 | _ => True, [(10, some 5)]⟩, ⟨[], [], [], [7], fun | [xo7] => xo7 = .bool x1 | _ => True, [(11, some 6)]⟩], res := [], base := [], pre := [[], [0], [], [], [2, 3], [0, 1, 2, 3, 4], [0, 1, 2, 3, 4, 5], [0, 1, 2, 3, 4, 5, 6]], fin := [(4, some 7)], left := [] } (by kernel_rfl) A1 S1 (perm_sel [0] (m := 1) rfl rfl) (by kernel_rfl) (by kernel_rfl) ?_ ?_
  · exact ⟨Plan.goal_run fun vs hf => ⟨wants_none rfl, OpT.conv (OpT.evs (ev' := evL [(1, .pointer (some ⟨g0_0, 0, none⟩))]) (opT_field_addr (g := g0_0) (b := 0) tf27_1 rfl rfl) rfl [.tmp 1] rfl ⟨rfl, trivial⟩) rfl (fun _ h => Eq.trans h rfl) (fun _ => rfl)⟩, Plan.goal_run fun vs hf => ⟨wants_none rfl, OpT.conv (OpT.evs (ev' := evL [(5, .pointer (some ⟨g0_0, 1, none⟩))]) (opT_load_fro (g := g0_0) (off := 1) (l := [.int .i64 q0.1, va1, va2]) (d := [va1]) (u := va1) rb0 ti22 rfl rfl rfl rfl rfl rfl) rfl [.tmp 5] rfl ⟨(hf 0 (mb rfl)), trivial⟩) rfl (fun _ h => Eq.trans h rfl) (fun _ => rfl)⟩, Plan.goal_run fun vs hf => ⟨wants_none rfl, OpT.conv (OpT.evs (ev' := evL [(2, .pointer (some ⟨g0_1, 0, none⟩))]) (opT_load_fro (g := g0_1) (off := 0) (l := [va4]) (d := [va4]) (u := va4) rb1 ti122 rfl rfl rfl rfl rfl rfl) rfl [.tmp 2] rfl ⟨rfl, trivial⟩) rfl (fun _ h => Eq.trans h rfl) (fun _ => rfl)⟩, Plan.goal_run fun vs hf => ⟨wants_none rfl, OpT.conv (OpT.evs (ev' := evL [(0, .int .i64 p0c)]) (opT_move (v := .int .i64 p0c) rfl rfl) rfl [.tmp 0] rfl ⟨rfl, trivial⟩) rfl (fun _ h => Eq.trans h rfl) (fun _ => rfl)⟩, Plan.goal_run fun vs hf => ⟨wants_none rfl, OpT.conv (OpT.evs (ev' := evL [(7, va4), (8, .int .i64 p0c)]) (opT_call_clo (v := va4) (args := [.int .i64 p0c]) (ra4.2 _ Hp.le.rfl p0c _ e1  ) rfl rfl rfl) rfl [.tmp 7, .tmp 8] rfl ⟨(hf 2 (mb rfl)), (hf 3 (mb rfl)), trivial⟩) rfl (fun _ h => h) (fun _ => rfl)⟩, Plan.goal_run fun vs hf => ⟨wants_none rfl, OpT.conv (OpT.evs (ev' := evL [(6, va1), (9, .int .i64 r1)]) (opT_index_hd (xs := q0.2.1) (i := r1) (n := 1) (Hd.of_rd ra1) Try.underlying22 ti4 rfl rfl rfl (getI_in e2)) rfl [.tmp 6, .tmp 9] rfl ⟨(hf 1 (mb rfl)), (hf 4 (mb rfl)), trivial⟩) rfl (fun _ h => Eq.trans h rfl) (fun _ => rfl)⟩, Plan.goal_run fun vs hf => ⟨wants_none rfl, OpT.conv (OpT.evs (ev' := evL [(10, pt va1 (r1.toNat * 1))]) (opT_load_el (S := rBool) (xs := q0.2.1) (a := x1) (i := r1) (k := 1) (off := 0) (f := fun (x : Bool) => x) ra1 e2 Fld.self ti4 rfl rfl rfl rfl rfl) rfl [.tmp 10] rfl ⟨(hf 5 (mb rfl)), trivial⟩) rfl (fun _ h => lds_one h) (fun _ => rfl)⟩, Plan.goal_run fun vs hf => ⟨wants_none rfl, OpT.conv (OpT.evs (ev' := evL [(11, .bool x1)]) (opT_assign (v := .bool x1) rfl rfl) rfl [.tmp 11] rfl ⟨(hf 6 (mb rfl)), trivial⟩) rfl (fun _ h => Eq.trans h rfl) (fun _ => rfl)⟩, trivial⟩
  intro vs a2 w2 hf A2 S2
  clear A1 S1
  replace A2 := A2.pick' (L' := [(4, .bool x1)]) ⟨(congrArg some (show _ = _ from (hf 7 (Nat.le_of_ble_eq_true rfl)))), trivial⟩
  replace S2 : St I w0 w2 [F] := S2
  clear hf vs
  refine nrm ?_
  refine wp_ret ?_
  obtain rfl := Option.some.inj hm
  exact ret_1 A2 rfl (res_tmp A2 rfl) ⟨_, rfl, rfl, _, Hp.le.rfl, St.sel (S2) 1 [0] rfl rfl⟩
set_option maxHeartbeats 8000000 in
theorem c_i_within (p0n : Int) (p1a : Int) (p2b : Int) (r : Bool) (hm : m_i_within p0n p1a p2b = some r) {I : Hp} {w0 : World} : Con Try.prog 95 #[.int .i64 p0n, .int .i64 p1a, .int .i64 p2b] I w0 [] (fun v => v = .bool r) (fun v => []) := by
  refine con_of_wp (n := 15) [(0, .int .i64 p0n), (1, .int .i64 p1a), (2, .int .i64 p2b)] Try.func95 rfl rfl (Nat.le_of_ble_eq_true rfl) (args_all ⟨rfl, rfl, rfl, trivial⟩) (fun F w a ha hs => ?_) (fun v => trivial)
  unfold m_i_within at hm
  refine wp_seq ?_
  refine wp_region_lit ?_
  refine sv ha hs (opT_assign (v := .bool false) rfl rfl) rfl rfl ?_
  clear ha hs a w;intro a1 w1 A1 S1
  refine wpList_nil ?_
  replace A1 := A1.pick' (L' := [(0, .int .i64 p0n), (1, .int .i64 p1a), (2, .int .i64 p2b)]) ⟨rfl, rfl, rfl, trivial⟩
  refine nrm ?_
  refine wp_seq ?_
  refine wp_region_lit ?_
  refine sv A1 S1 (opT_move (v := .int .i64 p0n) rfl rfl) rfl rfl ?_
  clear A1 S1 a1 w1;intro a2 w2 A2 S2
  refine sv A2 S2 (opT_move (v := .int .i64 p1a) rfl rfl) rfl rfl ?_
  clear A2 S2 a2 w2;intro a3 w3 A3 S3
  refine sv A3 S3 (opT_cmp (k := .i64) (m := p0n) (n := p1a) (c := decide (p0n ≥ p1a)) rfl rfl rfl rfl rfl) rfl rfl ?_
  clear A3 S3 a3 w3;intro a4 w4 A4 S4
  refine sv A4 S4 (opT_move (v := .bool (decide (p0n ≥ p1a))) rfl rfl) rfl rfl ?_
  clear A4 S4 a4 w4;intro a5 w5 A5 S5
  rcases two (decide (p0n ≥ p1a)) with hb1 | hb1
  · replace hm := ifFe hb1 hm
    refine seq_skip (g := 3) (d := 10) (want := true) (b := decide (p0n ≥ p1a)) A5 S5 rfl rfl rfl hb1 rfl ?_
    intro a6 A6
    refine seq_skip (g := 3) (d := 10) (want := true) (b := decide (p0n ≥ p1a)) A6 S5 rfl rfl rfl hb1 rfl ?_
    intro a7 A7
    refine seq_skip (g := 3) (d := 10) (want := true) (b := decide (p0n ≥ p1a)) A7 S5 rfl rfl rfl hb1 rfl ?_
    intro a8 A8
    refine sv A8 S5 (opT_pick (b := decide (p0n ≥ p1a)) (v := .bool false) rfl rfl (ifF hb1)) rfl rfl ?_
    clear A8 S5 a8 w5;intro a9 w9 A9 S9
    refine sv A9 S9 (opT_assign (v := .bool false) rfl rfl) rfl rfl ?_
    clear A9 S9 a9 w9;intro a10 w10 A10 S10
    refine wpList_nil ?_
    replace A10 := A10.pick' (L' := [(6, .bool false)]) ⟨rfl, trivial⟩
    refine nrm ?_
    refine wp_ret ?_
    obtain rfl := Option.some.inj hm
    exact ret_1 A10 rfl (res_tmp A10 rfl) ⟨_, rfl, rfl, _, Hp.le.rfl, St.sel (S10) 1 [0] rfl rfl⟩
  · replace hm := ifTe hb1 hm
    refine svg (g := 3) (d := 10) (want := true) (b := decide (p0n ≥ p1a)) A5 S5 rfl rfl rfl hb1 (opT_move (v := .int .i64 p0n) rfl rfl) rfl ?_
    clear A5 S5 a5 w5;intro a11 w11 A11 S11
    refine svg (g := 3) (d := 10) (want := true) (b := decide (p0n ≥ p1a)) A11 S11 rfl rfl rfl hb1 (opT_move (v := .int .i64 p2b) rfl rfl) rfl ?_
    clear A11 S11 a11 w11;intro a12 w12 A12 S12
    refine svg (g := 3) (d := 10) (want := true) (b := decide (p0n ≥ p1a)) A12 S12 rfl rfl rfl hb1 (opT_cmp (k := .i64) (m := p0n) (n := p2b) (c := decide (p0n ≤ p2b)) rfl rfl rfl rfl rfl) rfl ?_
    clear A12 S12 a12 w12;intro a13 w13 A13 S13
    refine sv A13 S13 (opT_pick (b := decide (p0n ≥ p1a)) (v := .bool (decide (p0n ≤ p2b))) rfl rfl (ifT hb1)) rfl rfl ?_
    clear A13 S13 a13 w13;intro a14 w14 A14 S14
    refine sv A14 S14 (opT_assign (v := .bool (decide (p0n ≤ p2b))) rfl rfl) rfl rfl ?_
    clear A14 S14 a14 w14;intro a15 w15 A15 S15
    refine wpList_nil ?_
    replace A15 := A15.pick' (L' := [(6, .bool (decide (p0n ≤ p2b)))]) ⟨rfl, trivial⟩
    refine nrm ?_
    refine wp_ret ?_
    obtain rfl := Option.some.inj hm
    exact ret_1 A15 rfl (res_tmp A15 rfl) ⟨_, rfl, rfl, _, Hp.le.rfl, St.sel (S15) 1 [0] rfl rfl⟩
end Go.Proofs.Ytcihbmdppgpmjaa.D
