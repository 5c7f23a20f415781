/- Printed by dec.py: models of functions and the walks that show them. -/
import Derived.Test.YtcihbmdppgpmjaaEw0_2
import Derived.Test.YtcihbmdppgpmjaaEw0_3
import Derived.Test.YtcihbmdppgpmjaaEw2_2
import Derived.Test.YtcihbmdppgpmjaaEw2_3
set_option linter.unusedVariables false
set_option linter.unusedSimpArgs false
set_option linter.unnecessarySimpa false
set_option maxRecDepth 100000
namespace Go.Proofs.Ytcihbmdppgpmjaa.D
open Go.RowKit
set_option maxHeartbeats 8000000 in
theorem c_w_szAutomatonS (p0a : List (Int × (List Bool) × (List (List Int)))) (p1left : Int) (r : Int) (hm : m_w_szAutomatonS p0a p1left = some r) {I : Hp} {w0 : World} (va0 : Value) (ra0 : (rSlice 25 (rProd rInt (rProd (rSlice 4 rBool) (rSlice 34 (rSlice 3 rInt))))).rd I [va0] p0a) : Con Try.prog 129 #[va0, .int .i64 p1left] I w0 [] (fun v => v = .int .i64 r) (fun v => []) := by
  refine con_of_wp (n := 27) [(0, va0), (1, .int .i64 p1left)] Try.func129 rfl rfl (Nat.le_of_ble_eq_true rfl) (args_all ⟨rfl, rfl, trivial⟩) (fun F w a ha hs => ?_) (fun v => trivial)
  unfold m_w_szAutomatonS at hm
  refine wp_seq ?_
  refine wp_region_lit ?_
  refine seq_op0 ha hs (opT_assign (v := .int .i64 0) rfl rfl) rfl rfl ?_
  rintro u aq1 wq1 hf haq1 hsq1
  obtain rfl := Eq.symm hf
  clear ha hs a w
  refine wpList_nil ?_
  replace haq1 := haq1.pick' (L' := [(0, va0), (1, .int .i64 p1left)]) ⟨rfl, rfl, trivial⟩
  refine nrm ?_
  refine wp_seq ?_
  refine wp_region_lit ?_
  refine seq_op0 haq1 hsq1 (opT_move (v := .int .i64 p1left) rfl rfl) rfl rfl ?_
  rintro u aq2 wq2 hf haq2 hsq2
  obtain rfl := Eq.symm hf
  clear haq1 hsq1 aq1 wq1
  refine seq_op0 haq2 hsq2 (opT_move (v := va0) rfl rfl) rfl rfl ?_
  rintro u aq3 wq3 hf haq3 hsq3
  obtain rfl := Eq.symm hf
  clear haq2 hsq2 aq2 wq2
  refine seq_op0 haq3 hsq3 (opT_len_hd (v := va0) (n := p0a.length) (Hd.of_rd ra0) Try.underlying60 rfl rfl) rfl rfl ?_
  rintro u aq4 wq4 hf haq4 hsq4
  obtain rfl := Eq.symm hf
  clear haq3 hsq3 aq3 wq3
  refine seq_op0 haq4 hsq4 (opT_sub (m := p1left) (n := (p0a.length : Int)) rfl rfl rfl) rfl rfl ?_
  rintro u aq5 wq5 hf haq5 hsq5
  obtain rfl := Eq.symm hf
  clear haq4 hsq4 aq4 wq4
  refine seq_op0 haq5 hsq5 (opT_assign (v := .int .i64 (IntKind.i64.wrap (p1left - (p0a.length : Int)))) rfl rfl) rfl rfl ?_
  rintro u aq6 wq6 hf haq6 hsq6
  obtain rfl := Eq.symm hf
  clear haq5 hsq5 aq5 wq5
  refine wpList_nil ?_
  replace haq6 := haq6.pick' (L' := [(0, va0), (1, .int .i64 (IntKind.i64.wrap (p1left - (p0a.length : Int))))]) ⟨rfl, rfl, trivial⟩
  refine nrm ?_
  refine wp_seq ?_
  refine wp_seq ?_
  refine wp_region_lit ?_
  refine seq_op0 haq6 hsq6 (opT_move (v := .int .i64 (IntKind.i64.wrap (p1left - (p0a.length : Int)))) rfl rfl) rfl rfl ?_
  rintro u aq7 wq7 hf haq7 hsq7
  obtain rfl := Eq.symm hf
  clear haq6 hsq6 aq6 wq6
  refine seq_op0 haq7 hsq7 (opT_cmp (k := .i64) (m := IntKind.i64.wrap (p1left - (p0a.length : Int))) (n := 0) (c := decide (IntKind.i64.wrap (p1left - (p0a.length : Int)) < 0)) rfl rfl rfl rfl rfl) rfl rfl ?_
  rintro u aq8 wq8 hf haq8 hsq8
  obtain rfl := Eq.symm hf
  clear haq7 hsq7 aq7 wq7
  refine wpList_nil ?_
  replace haq8 := haq8.pick' (L' := [(0, va0), (1, .int .i64 (IntKind.i64.wrap (p1left - (p0a.length : Int)))), (11, .bool (decide (IntKind.i64.wrap (p1left - (p0a.length : Int)) < 0)))]) ⟨rfl, rfl, rfl, trivial⟩
  refine nrm ?_
  rcases two (decide (IntKind.i64.wrap (p1left - (p0a.length : Int)) < 0)) with hb1 | hb1
  · replace hm := ifFe hb1 hm
    refine cnd_false (b := decide (IntKind.i64.wrap (p1left - (p0a.length : Int)) < 0)) haq8 rfl rfl hb1 ?_
    refine wp_skip ?_
    refine nrm ?_
    refine wp_seq ?_
    refine wp_seq ?_
    refine wp_region_lit ?_
    refine seq_op0 haq8 hsq8 (opT_assign (v := .int .i64 0) rfl rfl) rfl rfl ?_
    rintro u aq9 wq9 hf haq9 hsq9
    obtain rfl := Eq.symm hf
    clear haq8 hsq8 aq8 wq8
    refine wpList_nil ?_
    replace haq9 := haq9.pick' (L' := [(0, va0), (1, .int .i64 (IntKind.i64.wrap (p1left - (p0a.length : Int)))), (5, .int .i64 0)]) ⟨rfl, rfl, rfl, trivial⟩
    refine nrm ?_
    obtain ⟨o1, hl1, hc1⟩ := bindL_some hm
    refine wp_cut (fun a w => ∃ s4 : Int × Int, o1 = .brk s4 ∧ Agr 27 a [(1, .int .i64 s4.1)] ∧ St I w0 w [F]) ?_ ?_
    · refine wp_block (wp_loopM (R := Int) (S := Int × Int) (fun s3 a w => Agr 27 a [(0, va0), (1, .int .i64 s3.1), (5, .int .i64 s3.2)] ∧ St I w0 w [F]) hl1 ?_ ?_)
      · exact ⟨haq9.pick' ⟨rfl, rfl, rfl, trivial⟩, St.sel hsq9 1 [0] rfl rfl⟩
      · rintro s3 o2 hm hf1 aq44 wq44 ⟨haq44, hsq44⟩
        unfold m_w_szAutomatonS_l0 at hm
        refine wp_seq ?_
        refine wp_seq ?_
        refine wp_region_lit ?_
        refine seq_op0 haq44 hsq44 (opT_move (v := .int .i64 s3.2) rfl rfl) rfl rfl ?_
        rintro u aq45 wq45 hf haq45 hsq45
        obtain rfl := Eq.symm hf
        clear haq44 hsq44 aq44 wq44
        refine seq_op0 haq45 hsq45 (opT_move (v := va0) rfl rfl) rfl rfl ?_
        rintro u aq46 wq46 hf haq46 hsq46
        obtain rfl := Eq.symm hf
        clear haq45 hsq45 aq45 wq45
        refine seq_op0 haq46 hsq46 (opT_len_hd (v := va0) (n := p0a.length) (Hd.of_rd ra0) Try.underlying60 rfl rfl) rfl rfl ?_
        rintro u aq47 wq47 hf haq47 hsq47
        obtain rfl := Eq.symm hf
        clear haq46 hsq46 aq46 wq46
        refine seq_op0 haq47 hsq47 (opT_cmp (k := .i64) (m := s3.2) (n := (p0a.length : Int)) (c := decide (s3.2 < (p0a.length : Int))) rfl rfl rfl rfl rfl) rfl rfl ?_
        rintro u aq48 wq48 hf haq48 hsq48
        obtain rfl := Eq.symm hf
        clear haq47 hsq47 aq47 wq47
        refine wpList_nil ?_
        replace haq48 := haq48.pick' (L' := [(0, va0), (1, .int .i64 s3.1), (5, .int .i64 s3.2), (15, .bool (decide (s3.2 < (p0a.length : Int))))]) ⟨rfl, rfl, rfl, rfl, trivial⟩
        refine nrm ?_
        rcases two (decide (s3.2 < (p0a.length : Int))) with hb6 | hb6
        · replace hm := ifFe hb6 hm
          refine cnd_false (b := decide (s3.2 < (p0a.length : Int))) haq48 rfl rfl hb6 ?_
          refine wp_exit ?_
          refine thenX ?_
          refine thenX ?_
          refine ex_in ?_
          refine nrm ?_
          exact ⟨_, loopBrk hm hf1, ⟨haq48.pick' ⟨rfl, trivial⟩, St.sel hsq48 1 [0] rfl rfl⟩⟩
        · replace hm := ifTe hb6 hm
          refine cnd_true (b := decide (s3.2 < (p0a.length : Int))) haq48 rfl rfl hb6 ?_
          refine wp_skip ?_
          refine nrm ?_
          refine wp_seq ?_
          refine wp_block ?_
          refine wp_seq ?_
          refine wp_region_lit ?_
          refine seq_op0 haq48 hsq48 (opT_move (v := va0) rfl rfl) rfl rfl ?_
          rintro u aq49 wq49 hf haq49 hsq49
          obtain rfl := Eq.symm hf
          clear haq48 hsq48 aq48 wq48
          refine seq_op0 haq49 hsq49 (opT_move (v := .int .i64 s3.2) rfl rfl) rfl rfl ?_
          rintro u aq50 wq50 hf haq50 hsq50
          obtain rfl := Eq.symm hf
          clear haq49 hsq49 aq49 wq49
          obtain ⟨x3, e5, hm⟩ := bind_some hm
          refine seq_op0 haq50 hsq50 (opT_index_hd (xs := p0a) (i := s3.2) (n := 3) (Hd.of_rd ra0) Try.underlying60 ti25 rfl rfl rfl (getI_in e5)) rfl rfl ?_
          rintro u aq51 wq51 hf haq51 hsq51
          obtain rfl := Eq.symm hf
          clear haq50 hsq50 aq50 wq50
          refine seq_op0 haq51 hsq51 (opT_load_el (S := rProd rInt (rProd (rSlice 4 rBool) (rSlice 34 (rSlice 3 rInt)))) (xs := p0a) (a := x3) (i := s3.2) (k := 3) (off := 0) (f := fun (x : Int × (List Bool) × (List (List Int))) => x) ra0 e5 Fld.self ti25 rfl rfl rfl rfl rfl) rfl rfl ?_
          rintro u aq52 wq52 ⟨d, hd, hf⟩ haq52 hsq52
          obtain ⟨_, _, rfl, rfl, ⟨_, _, rfl, r70, r80⟩⟩ := hd
          obtain ⟨v5, rfl⟩ := one_cell r70 rfl
          have r7 := r70; clear r70
          obtain ⟨v6, rfl⟩ := one_cell r80 rfl
          have r8 := r80; clear r80
          obtain rfl : u = .agg #[.int .i64 x3.1, v5, v6] := hf
          clear haq51 hsq51 aq51 wq51
          refine seq_op0 haq52 hsq52 (opT_move (v := .int .i64 s3.1) rfl rfl) rfl rfl ?_
          rintro u aq53 wq53 hf haq53 hsq53
          obtain rfl := Eq.symm hf
          clear haq52 hsq52 aq52 wq52
          obtain ⟨r9, e6, hm⟩ := bind_some hm
          refine seq_op0 haq53 hsq53 (opT_call (args := #[.agg #[.int .i64 x3.1, v5, v6], .int .i64 s3.1]) (first := #[]) (captured := #[]) en12 rfl rfl rfl (c_w_szAutomaton (x3.1, x3.2.1, x3.2.2) s3.1 _ e6 v5 v6 r7 r8)) rfl rfl ?_
          rintro u aq54 wq54 hf haq54 hsq54
          obtain rfl := Eq.symm hf
          clear haq53 hsq53 aq53 wq53
          refine seq_op0 haq54 hsq54 (opT_assign (v := .int .i64 r9) rfl rfl) rfl rfl ?_
          rintro u aq55 wq55 hf haq55 hsq55
          obtain rfl := Eq.symm hf
          clear haq54 hsq54 aq54 wq54
          refine wpList_nil ?_
          replace haq55 := haq55.pick' (L' := [(0, va0), (1, .int .i64 r9), (5, .int .i64 s3.2)]) ⟨rfl, rfl, rfl, trivial⟩
          refine nrm ?_
          refine wp_seq ?_
          refine wp_region_lit ?_
          refine seq_op0 haq55 hsq55 (opT_move (v := .int .i64 r9) rfl rfl) rfl rfl ?_
          rintro u aq56 wq56 hf haq56 hsq56
          obtain rfl := Eq.symm hf
          clear haq55 hsq55 aq55 wq55
          refine seq_op0 haq56 hsq56 (opT_cmp (k := .i64) (m := r9) (n := 0) (c := decide (r9 < 0)) rfl rfl rfl rfl rfl) rfl rfl ?_
          rintro u aq57 wq57 hf haq57 hsq57
          obtain rfl := Eq.symm hf
          clear haq56 hsq56 aq56 wq56
          refine wpList_nil ?_
          replace haq57 := haq57.pick' (L' := [(0, va0), (1, .int .i64 r9), (5, .int .i64 s3.2), (25, .bool (decide (r9 < 0)))]) ⟨rfl, rfl, rfl, rfl, trivial⟩
          refine nrm ?_
          rcases two (decide (r9 < 0)) with hb7 | hb7
          · replace hm := ifFe hb7 hm
            refine cnd_false (b := decide (r9 < 0)) haq57 rfl rfl hb7 ?_
            refine wp_skip ?_
            refine nrmB ?_
            refine nrm ?_
            refine wp_region_lit ?_
            refine seq_op0 haq57 hsq57 (opT_move (v := .int .i64 s3.2) rfl rfl) rfl rfl ?_
            rintro u aq58 wq58 hf haq58 hsq58
            obtain rfl := Eq.symm hf
            clear haq57 hsq57 aq57 wq57
            refine seq_op0 haq58 hsq58 (opT_add (m := s3.2) (n := 1) rfl rfl rfl) rfl rfl ?_
            rintro u aq59 wq59 hf haq59 hsq59
            obtain rfl := Eq.symm hf
            clear haq58 hsq58 aq58 wq58
            refine seq_op0 haq59 hsq59 (opT_assign (v := .int .i64 (IntKind.i64.wrap (s3.2 + 1))) rfl rfl) rfl rfl ?_
            rintro u aq60 wq60 hf haq60 hsq60
            obtain rfl := Eq.symm hf
            clear haq59 hsq59 aq59 wq59
            refine wpList_nil ?_
            replace haq60 := haq60.pick' (L' := [(0, va0), (1, .int .i64 r9), (5, .int .i64 (IntKind.i64.wrap (s3.2 + 1)))]) ⟨rfl, rfl, rfl, trivial⟩
            refine nrm ?_
            exact ⟨_, (Option.some.inj hm).symm, ⟨haq60.pick' ⟨rfl, rfl, rfl, trivial⟩, St.sel hsq60 1 [0] rfl rfl⟩⟩
          · replace hm := ifTe hb7 hm
            refine cnd_true (b := decide (r9 < 0)) haq57 rfl rfl hb7 ?_
            refine wp_seq ?_
            refine wp_region_lit ?_
            refine seq_op0 haq57 hsq57 (opT_assign (v := .int .i64 (-1)) rfl rfl) rfl rfl ?_
            rintro u aq61 wq61 hf haq61 hsq61
            obtain rfl := Eq.symm hf
            clear haq57 hsq57 aq57 wq57
            refine wpList_nil ?_
            replace haq61 := haq61.pick' (L' := [(4, .int .i64 (-1))]) ⟨rfl, trivial⟩
            refine nrm ?_
            refine wp_ret ?_
            refine blkR ?_
            refine thenR ?_
            refine thenR ?_
            refine blkR ?_
            refine thenR ?_
            refine thenR ?_
            replace hm := loopRet hm hf1 hc1
            obtain rfl := Option.some.inj hm
            exact ret_1 haq61 rfl (res_tmp haq61 rfl) ⟨_, rfl, rfl, _, Hp.le.rfl, St.sel (hsq61) 1 [0] rfl rfl⟩
    · rintro aq62 wq62 ⟨s4, ho1, haq62, hsq62⟩
      replace hm := loopOut ho1 hc1
      clear ho1 hc1 hl1
      refine nrm ?_
      refine wp_seq ?_
      refine wp_region_lit ?_
      refine seq_op0 haq62 hsq62 (opT_move (v := .int .i64 s4.1) rfl rfl) rfl rfl ?_
      rintro u aq63 wq63 hf haq63 hsq63
      obtain rfl := Eq.symm hf
      clear haq62 hsq62 aq62 wq62
      refine seq_op0 haq63 hsq63 (opT_assign (v := .int .i64 s4.1) rfl rfl) rfl rfl ?_
      rintro u aq64 wq64 hf haq64 hsq64
      obtain rfl := Eq.symm hf
      clear haq63 hsq63 aq63 wq63
      refine wpList_nil ?_
      replace haq64 := haq64.pick' (L' := [(4, .int .i64 s4.1)]) ⟨rfl, trivial⟩
      refine nrm ?_
      refine wp_ret ?_
      obtain rfl := Option.some.inj hm
      exact ret_1 haq64 rfl (res_tmp haq64 rfl) ⟨_, rfl, rfl, _, Hp.le.rfl, St.sel (hsq64) 1 [0] rfl rfl⟩
  · replace hm := ifTe hb1 hm
    refine cnd_true (b := decide (IntKind.i64.wrap (p1left - (p0a.length : Int)) < 0)) haq8 rfl rfl hb1 ?_
    refine wp_seq ?_
    refine wp_region_lit ?_
    refine seq_op0 haq8 hsq8 (opT_assign (v := .int .i64 (-1)) rfl rfl) rfl rfl ?_
    rintro u aq65 wq65 hf haq65 hsq65
    obtain rfl := Eq.symm hf
    clear haq8 hsq8 aq8 wq8
    refine wpList_nil ?_
    replace haq65 := haq65.pick' (L' := [(4, .int .i64 (-1))]) ⟨rfl, trivial⟩
    refine nrm ?_
    refine wp_ret ?_
    refine thenR ?_
    obtain rfl := Option.some.inj hm
    exact ret_1 haq65 rfl (res_tmp haq65 rfl) ⟨_, rfl, rfl, _, Hp.le.rfl, St.sel (hsq65) 1 [0] rfl rfl⟩
set_option maxHeartbeats 8000000 in
theorem c_w_szRegisteredS (p0a : List (Int × ((List (Int × Int × Int × Int))) × Int)) (p1left : Int) (r : Int) (hm : m_w_szRegisteredS p0a p1left = some r) {I : Hp} {w0 : World} (va0 : Value) (ra0 : (rSlice 195 (rProd rInt (rProd (rSlice 222 (rProd rInt (rProd rInt (rProd rInt rInt)))) rInt))).rd I [va0] p0a) : Con Try.prog 130 #[va0, .int .i64 p1left] I w0 [] (fun v => v = .int .i64 r) (fun v => []) := by
  refine con_of_wp (n := 27) [(0, va0), (1, .int .i64 p1left)] Try.func130 rfl rfl (Nat.le_of_ble_eq_true rfl) (args_all ⟨rfl, rfl, trivial⟩) (fun F w a ha hs => ?_) (fun v => trivial)
  unfold m_w_szRegisteredS at hm
  refine wp_seq ?_
  refine wp_region_lit ?_
  refine seq_op0 ha hs (opT_assign (v := .int .i64 0) rfl rfl) rfl rfl ?_
  rintro u aq1 wq1 hf haq1 hsq1
  obtain rfl := Eq.symm hf
  clear ha hs a w
  refine wpList_nil ?_
  replace haq1 := haq1.pick' (L' := [(0, va0), (1, .int .i64 p1left)]) ⟨rfl, rfl, trivial⟩
  refine nrm ?_
  refine wp_seq ?_
  refine wp_region_lit ?_
  refine seq_op0 haq1 hsq1 (opT_move (v := .int .i64 p1left) rfl rfl) rfl rfl ?_
  rintro u aq2 wq2 hf haq2 hsq2
  obtain rfl := Eq.symm hf
  clear haq1 hsq1 aq1 wq1
  refine seq_op0 haq2 hsq2 (opT_move (v := va0) rfl rfl) rfl rfl ?_
  rintro u aq3 wq3 hf haq3 hsq3
  obtain rfl := Eq.symm hf
  clear haq2 hsq2 aq2 wq2
  refine seq_op0 haq3 hsq3 (opT_len_hd (v := va0) (n := p0a.length) (Hd.of_rd ra0) Try.underlying61 rfl rfl) rfl rfl ?_
  rintro u aq4 wq4 hf haq4 hsq4
  obtain rfl := Eq.symm hf
  clear haq3 hsq3 aq3 wq3
  refine seq_op0 haq4 hsq4 (opT_sub (m := p1left) (n := (p0a.length : Int)) rfl rfl rfl) rfl rfl ?_
  rintro u aq5 wq5 hf haq5 hsq5
  obtain rfl := Eq.symm hf
  clear haq4 hsq4 aq4 wq4
  refine seq_op0 haq5 hsq5 (opT_assign (v := .int .i64 (IntKind.i64.wrap (p1left - (p0a.length : Int)))) rfl rfl) rfl rfl ?_
  rintro u aq6 wq6 hf haq6 hsq6
  obtain rfl := Eq.symm hf
  clear haq5 hsq5 aq5 wq5
  refine wpList_nil ?_
  replace haq6 := haq6.pick' (L' := [(0, va0), (1, .int .i64 (IntKind.i64.wrap (p1left - (p0a.length : Int))))]) ⟨rfl, rfl, trivial⟩
  refine nrm ?_
  refine wp_seq ?_
  refine wp_seq ?_
  refine wp_region_lit ?_
  refine seq_op0 haq6 hsq6 (opT_move (v := .int .i64 (IntKind.i64.wrap (p1left - (p0a.length : Int)))) rfl rfl) rfl rfl ?_
  rintro u aq7 wq7 hf haq7 hsq7
  obtain rfl := Eq.symm hf
  clear haq6 hsq6 aq6 wq6
  refine seq_op0 haq7 hsq7 (opT_cmp (k := .i64) (m := IntKind.i64.wrap (p1left - (p0a.length : Int))) (n := 0) (c := decide (IntKind.i64.wrap (p1left - (p0a.length : Int)) < 0)) rfl rfl rfl rfl rfl) rfl rfl ?_
  rintro u aq8 wq8 hf haq8 hsq8
  obtain rfl := Eq.symm hf
  clear haq7 hsq7 aq7 wq7
  refine wpList_nil ?_
  replace haq8 := haq8.pick' (L' := [(0, va0), (1, .int .i64 (IntKind.i64.wrap (p1left - (p0a.length : Int)))), (11, .bool (decide (IntKind.i64.wrap (p1left - (p0a.length : Int)) < 0)))]) ⟨rfl, rfl, rfl, trivial⟩
  refine nrm ?_
  rcases two (decide (IntKind.i64.wrap (p1left - (p0a.length : Int)) < 0)) with hb1 | hb1
  · replace hm := ifFe hb1 hm
    refine cnd_false (b := decide (IntKind.i64.wrap (p1left - (p0a.length : Int)) < 0)) haq8 rfl rfl hb1 ?_
    refine wp_skip ?_
    refine nrm ?_
    refine wp_seq ?_
    refine wp_seq ?_
    refine wp_region_lit ?_
    refine seq_op0 haq8 hsq8 (opT_assign (v := .int .i64 0) rfl rfl) rfl rfl ?_
    rintro u aq9 wq9 hf haq9 hsq9
    obtain rfl := Eq.symm hf
    clear haq8 hsq8 aq8 wq8
    refine wpList_nil ?_
    replace haq9 := haq9.pick' (L' := [(0, va0), (1, .int .i64 (IntKind.i64.wrap (p1left - (p0a.length : Int)))), (5, .int .i64 0)]) ⟨rfl, rfl, rfl, trivial⟩
    refine nrm ?_
    obtain ⟨o1, hl1, hc1⟩ := bindL_some hm
    refine wp_cut (fun a w => ∃ s4 : Int × Int, o1 = .brk s4 ∧ Agr 27 a [(1, .int .i64 s4.1)] ∧ St I w0 w [F]) ?_ ?_
    · refine wp_block (wp_loopM (R := Int) (S := Int × Int) (fun s3 a w => Agr 27 a [(0, va0), (1, .int .i64 s3.1), (5, .int .i64 s3.2)] ∧ St I w0 w [F]) hl1 ?_ ?_)
      · exact ⟨haq9.pick' ⟨rfl, rfl, rfl, trivial⟩, St.sel hsq9 1 [0] rfl rfl⟩
      · rintro s3 o2 hm hf1 aq44 wq44 ⟨haq44, hsq44⟩
        unfold m_w_szRegisteredS_l0 at hm
        refine wp_seq ?_
        refine wp_seq ?_
        refine wp_region_lit ?_
        refine seq_op0 haq44 hsq44 (opT_move (v := .int .i64 s3.2) rfl rfl) rfl rfl ?_
        rintro u aq45 wq45 hf haq45 hsq45
        obtain rfl := Eq.symm hf
        clear haq44 hsq44 aq44 wq44
        refine seq_op0 haq45 hsq45 (opT_move (v := va0) rfl rfl) rfl rfl ?_
        rintro u aq46 wq46 hf haq46 hsq46
        obtain rfl := Eq.symm hf
        clear haq45 hsq45 aq45 wq45
        refine seq_op0 haq46 hsq46 (opT_len_hd (v := va0) (n := p0a.length) (Hd.of_rd ra0) Try.underlying61 rfl rfl) rfl rfl ?_
        rintro u aq47 wq47 hf haq47 hsq47
        obtain rfl := Eq.symm hf
        clear haq46 hsq46 aq46 wq46
        refine seq_op0 haq47 hsq47 (opT_cmp (k := .i64) (m := s3.2) (n := (p0a.length : Int)) (c := decide (s3.2 < (p0a.length : Int))) rfl rfl rfl rfl rfl) rfl rfl ?_
        rintro u aq48 wq48 hf haq48 hsq48
        obtain rfl := Eq.symm hf
        clear haq47 hsq47 aq47 wq47
        refine wpList_nil ?_
        replace haq48 := haq48.pick' (L' := [(0, va0), (1, .int .i64 s3.1), (5, .int .i64 s3.2), (15, .bool (decide (s3.2 < (p0a.length : Int))))]) ⟨rfl, rfl, rfl, rfl, trivial⟩
        refine nrm ?_
        rcases two (decide (s3.2 < (p0a.length : Int))) with hb6 | hb6
        · replace hm := ifFe hb6 hm
          refine cnd_false (b := decide (s3.2 < (p0a.length : Int))) haq48 rfl rfl hb6 ?_
          refine wp_exit ?_
          refine thenX ?_
          refine thenX ?_
          refine ex_in ?_
          refine nrm ?_
          exact ⟨_, loopBrk hm hf1, ⟨haq48.pick' ⟨rfl, trivial⟩, St.sel hsq48 1 [0] rfl rfl⟩⟩
        · replace hm := ifTe hb6 hm
          refine cnd_true (b := decide (s3.2 < (p0a.length : Int))) haq48 rfl rfl hb6 ?_
          refine wp_skip ?_
          refine nrm ?_
          refine wp_seq ?_
          refine wp_block ?_
          refine wp_seq ?_
          refine wp_region_lit ?_
          refine seq_op0 haq48 hsq48 (opT_move (v := va0) rfl rfl) rfl rfl ?_
          rintro u aq49 wq49 hf haq49 hsq49
          obtain rfl := Eq.symm hf
          clear haq48 hsq48 aq48 wq48
          refine seq_op0 haq49 hsq49 (opT_move (v := .int .i64 s3.2) rfl rfl) rfl rfl ?_
          rintro u aq50 wq50 hf haq50 hsq50
          obtain rfl := Eq.symm hf
          clear haq49 hsq49 aq49 wq49
          obtain ⟨x3, e5, hm⟩ := bind_some hm
          refine seq_op0 haq50 hsq50 (opT_index_hd (xs := p0a) (i := s3.2) (n := 3) (Hd.of_rd ra0) Try.underlying61 ti195 rfl rfl rfl (getI_in e5)) rfl rfl ?_
          rintro u aq51 wq51 hf haq51 hsq51
          obtain rfl := Eq.symm hf
          clear haq50 hsq50 aq50 wq50
          refine seq_op0 haq51 hsq51 (opT_load_el (S := rProd rInt (rProd (rSlice 222 (rProd rInt (rProd rInt (rProd rInt rInt)))) rInt)) (xs := p0a) (a := x3) (i := s3.2) (k := 3) (off := 0) (f := fun (x : Int × ((List (Int × Int × Int × Int))) × Int) => x) ra0 e5 Fld.self ti195 rfl rfl rfl rfl rfl) rfl rfl ?_
          rintro u aq52 wq52 ⟨d, hd, hf⟩ haq52 hsq52
          obtain ⟨_, _, rfl, rfl, ⟨_, _, rfl, r50, rfl⟩⟩ := hd
          obtain ⟨v3, rfl⟩ := one_cell r50 rfl
          have r5 := r50; clear r50
          obtain rfl : u = .agg #[.int .i64 x3.1, v3, .int .i64 x3.2.2] := hf
          clear haq51 hsq51 aq51 wq51
          refine seq_op0 haq52 hsq52 (opT_move (v := .int .i64 s3.1) rfl rfl) rfl rfl ?_
          rintro u aq53 wq53 hf haq53 hsq53
          obtain rfl := Eq.symm hf
          clear haq52 hsq52 aq52 wq52
          obtain ⟨r6, e6, hm⟩ := bind_some hm
          refine seq_op0 haq53 hsq53 (opT_call (args := #[.agg #[.int .i64 x3.1, v3, .int .i64 x3.2.2], .int .i64 s3.1]) (first := #[]) (captured := #[]) en166 rfl rfl rfl (c_w_szRegistered (x3.1, x3.2.1, x3.2.2) s3.1 _ e6 v3 r5)) rfl rfl ?_
          rintro u aq54 wq54 hf haq54 hsq54
          obtain rfl := Eq.symm hf
          clear haq53 hsq53 aq53 wq53
          refine seq_op0 haq54 hsq54 (opT_assign (v := .int .i64 r6) rfl rfl) rfl rfl ?_
          rintro u aq55 wq55 hf haq55 hsq55
          obtain rfl := Eq.symm hf
          clear haq54 hsq54 aq54 wq54
          refine wpList_nil ?_
          replace haq55 := haq55.pick' (L' := [(0, va0), (1, .int .i64 r6), (5, .int .i64 s3.2)]) ⟨rfl, rfl, rfl, trivial⟩
          refine nrm ?_
          refine wp_seq ?_
          refine wp_region_lit ?_
          refine seq_op0 haq55 hsq55 (opT_move (v := .int .i64 r6) rfl rfl) rfl rfl ?_
          rintro u aq56 wq56 hf haq56 hsq56
          obtain rfl := Eq.symm hf
          clear haq55 hsq55 aq55 wq55
          refine seq_op0 haq56 hsq56 (opT_cmp (k := .i64) (m := r6) (n := 0) (c := decide (r6 < 0)) rfl rfl rfl rfl rfl) rfl rfl ?_
          rintro u aq57 wq57 hf haq57 hsq57
          obtain rfl := Eq.symm hf
          clear haq56 hsq56 aq56 wq56
          refine wpList_nil ?_
          replace haq57 := haq57.pick' (L' := [(0, va0), (1, .int .i64 r6), (5, .int .i64 s3.2), (25, .bool (decide (r6 < 0)))]) ⟨rfl, rfl, rfl, rfl, trivial⟩
          refine nrm ?_
          rcases two (decide (r6 < 0)) with hb7 | hb7
          · replace hm := ifFe hb7 hm
            refine cnd_false (b := decide (r6 < 0)) haq57 rfl rfl hb7 ?_
            refine wp_skip ?_
            refine nrmB ?_
            refine nrm ?_
            refine wp_region_lit ?_
            refine seq_op0 haq57 hsq57 (opT_move (v := .int .i64 s3.2) rfl rfl) rfl rfl ?_
            rintro u aq58 wq58 hf haq58 hsq58
            obtain rfl := Eq.symm hf
            clear haq57 hsq57 aq57 wq57
            refine seq_op0 haq58 hsq58 (opT_add (m := s3.2) (n := 1) rfl rfl rfl) rfl rfl ?_
            rintro u aq59 wq59 hf haq59 hsq59
            obtain rfl := Eq.symm hf
            clear haq58 hsq58 aq58 wq58
            refine seq_op0 haq59 hsq59 (opT_assign (v := .int .i64 (IntKind.i64.wrap (s3.2 + 1))) rfl rfl) rfl rfl ?_
            rintro u aq60 wq60 hf haq60 hsq60
            obtain rfl := Eq.symm hf
            clear haq59 hsq59 aq59 wq59
            refine wpList_nil ?_
            replace haq60 := haq60.pick' (L' := [(0, va0), (1, .int .i64 r6), (5, .int .i64 (IntKind.i64.wrap (s3.2 + 1)))]) ⟨rfl, rfl, rfl, trivial⟩
            refine nrm ?_
            exact ⟨_, (Option.some.inj hm).symm, ⟨haq60.pick' ⟨rfl, rfl, rfl, trivial⟩, St.sel hsq60 1 [0] rfl rfl⟩⟩
          · replace hm := ifTe hb7 hm
            refine cnd_true (b := decide (r6 < 0)) haq57 rfl rfl hb7 ?_
            refine wp_seq ?_
            refine wp_region_lit ?_
            refine seq_op0 haq57 hsq57 (opT_assign (v := .int .i64 (-1)) rfl rfl) rfl rfl ?_
            rintro u aq61 wq61 hf haq61 hsq61
            obtain rfl := Eq.symm hf
            clear haq57 hsq57 aq57 wq57
            refine wpList_nil ?_
            replace haq61 := haq61.pick' (L' := [(4, .int .i64 (-1))]) ⟨rfl, trivial⟩
            refine nrm ?_
            refine wp_ret ?_
            refine blkR ?_
            refine thenR ?_
            refine thenR ?_
            refine blkR ?_
            refine thenR ?_
            refine thenR ?_
            replace hm := loopRet hm hf1 hc1
            obtain rfl := Option.some.inj hm
            exact ret_1 haq61 rfl (res_tmp haq61 rfl) ⟨_, rfl, rfl, _, Hp.le.rfl, St.sel (hsq61) 1 [0] rfl rfl⟩
    · rintro aq62 wq62 ⟨s4, ho1, haq62, hsq62⟩
      replace hm := loopOut ho1 hc1
      clear ho1 hc1 hl1
      refine nrm ?_
      refine wp_seq ?_
      refine wp_region_lit ?_
      refine seq_op0 haq62 hsq62 (opT_move (v := .int .i64 s4.1) rfl rfl) rfl rfl ?_
      rintro u aq63 wq63 hf haq63 hsq63
      obtain rfl := Eq.symm hf
      clear haq62 hsq62 aq62 wq62
      refine seq_op0 haq63 hsq63 (opT_assign (v := .int .i64 s4.1) rfl rfl) rfl rfl ?_
      rintro u aq64 wq64 hf haq64 hsq64
      obtain rfl := Eq.symm hf
      clear haq63 hsq63 aq63 wq63
      refine wpList_nil ?_
      replace haq64 := haq64.pick' (L' := [(4, .int .i64 s4.1)]) ⟨rfl, trivial⟩
      refine nrm ?_
      refine wp_ret ?_
      obtain rfl := Option.some.inj hm
      exact ret_1 haq64 rfl (res_tmp haq64 rfl) ⟨_, rfl, rfl, _, Hp.le.rfl, St.sel (hsq64) 1 [0] rfl rfl⟩
  · replace hm := ifTe hb1 hm
    refine cnd_true (b := decide (IntKind.i64.wrap (p1left - (p0a.length : Int)) < 0)) haq8 rfl rfl hb1 ?_
    refine wp_seq ?_
    refine wp_region_lit ?_
    refine seq_op0 haq8 hsq8 (opT_assign (v := .int .i64 (-1)) rfl rfl) rfl rfl ?_
    rintro u aq65 wq65 hf haq65 hsq65
    obtain rfl := Eq.symm hf
    clear haq8 hsq8 aq8 wq8
    refine wpList_nil ?_
    replace haq65 := haq65.pick' (L' := [(4, .int .i64 (-1))]) ⟨rfl, trivial⟩
    refine nrm ?_
    refine wp_ret ?_
    refine thenR ?_
    obtain rfl := Option.some.inj hm
    exact ret_1 haq65 rfl (res_tmp haq65 rfl) ⟨_, rfl, rfl, _, Hp.le.rfl, St.sel (hsq65) 1 [0] rfl rfl⟩
set_option maxHeartbeats 8000000 in
theorem c_i_EqualRegistries (p0a : (List (Int × (List Bool) × (List (List Int)))) × (List (Int × ((List (Int × Int × Int × Int))) × Int))) (p1b : (List (Int × (List Bool) × (List (List Int)))) × (List (Int × ((List (Int × Int × Int × Int))) × Int))) (r : Bool) (hm : m_i_EqualRegistries p0a p1b = some r) {I : Hp} {w0 : World} (va0 : Value) (va1 : Value) (va2 : Value) (va3 : Value) (ra0 : (rSlice 27 (rProd rInt (rProd (rSlice 4 rBool) (rSlice 34 (rSlice 3 rInt))))).rd I [va0] p0a.1) (ra1 : (rSlice 147 (rProd rInt (rProd (rSlice 197 (rProd rInt (rProd rInt (rProd rInt rInt)))) rInt))).rd I [va1] p0a.2) (ra2 : (rSlice 27 (rProd rInt (rProd (rSlice 4 rBool) (rSlice 34 (rSlice 3 rInt))))).rd I [va2] p1b.1) (ra3 : (rSlice 147 (rProd rInt (rProd (rSlice 197 (rProd rInt (rProd rInt (rProd rInt rInt)))) rInt))).rd I [va3] p1b.2) : Con Try.prog 87 #[.agg #[va0, va1], .agg #[va2, va3]] I w0 [] (fun v => v = .bool r) (fun v => []) := by
  refine con_of_wp (n := 17) [(0, .agg #[va0, va1]), (1, .agg #[va2, va3])] Try.func87 rfl rfl (Nat.le_of_ble_eq_true rfl) (args_all ⟨rfl, rfl, trivial⟩) (fun F w a ha hs => ?_) (fun v => trivial)
  unfold m_i_EqualRegistries at hm
  refine wp_seq ?_
  refine wp_region_lit ?_
  refine seq_op ha hs rfl (opT_box (u := .agg #[va0, va1]) (l := [va0, va1]) rfl rfl rfl) (List.Perm.refl _) rfl ?_
  rintro _ aq1 wq1 ⟨g1, rfl⟩ haq1 (hsq1 : St I w0 wq1 [Ch.blk g1 [va0, va1] 75, F])
  clear ha hs a w
  refine seq_op haq1 hsq1 rfl (opT_box (u := .agg #[va2, va3]) (l := [va2, va3]) rfl rfl rfl) (List.Perm.refl _) rfl ?_
  rintro _ aq2 wq2 ⟨g2, rfl⟩ haq2 (hsq2 : St I w0 wq2 [Ch.blk g2 [va2, va3] 75, Ch.blk g1 [va0, va1] 75, F])
  clear haq1 hsq1 aq1 wq1
  refine seq_op0 haq2 hsq2 (opT_assign (v := .bool false) rfl rfl) rfl rfl ?_
  rintro u aq3 wq3 hf haq3 hsq3
  obtain rfl := Eq.symm hf
  clear haq2 hsq2 aq2 wq2
  refine wpList_nil ?_
  replace haq3 := haq3.pick' (L' := [(2, .pointer (some ⟨g1, 0, none⟩)), (3, .pointer (some ⟨g2, 0, none⟩))]) ⟨rfl, rfl, trivial⟩
  refine nrm ?_
  refine wp_seq ?_
  refine wp_region_lit ?_
  refine seq_op0 haq3 hsq3 (opT_field_addr (g := g1) (b := 0) tf75_0 rfl rfl) rfl rfl ?_
  rintro u aq4 wq4 hf haq4 hsq4
  obtain rfl := Eq.symm hf
  clear haq3 hsq3 aq3 wq3
  refine seq_op haq4 hsq4 rfl (opT_load_blk (g := g1) (off := 0) (E := 75) (l := [va0, va1]) (d := [va0]) (u := va0) ti72 rfl rfl rfl rfl rfl rfl) (perm_front (i := 1) rfl) rfl ?_
  rintro u aq5 wq5 hf haq5 (hsq5 : St I w0 wq5 [Ch.blk g1 [va0, va1] 75, Ch.blk g2 [va2, va3] 75, F])
  obtain rfl := Eq.symm hf
  clear haq4 hsq4 aq4 wq4
  refine seq_op0 haq5 hsq5 (opT_field_addr (g := g2) (b := 0) tf75_0 rfl rfl) rfl rfl ?_
  rintro u aq6 wq6 hf haq6 hsq6
  obtain rfl := Eq.symm hf
  clear haq5 hsq5 aq5 wq5
  refine seq_op haq6 hsq6 rfl (opT_load_blk (g := g2) (off := 0) (E := 75) (l := [va2, va3]) (d := [va2]) (u := va2) ti72 rfl rfl rfl rfl rfl rfl) (perm_front (i := 1) rfl) rfl ?_
  rintro u aq7 wq7 hf haq7 (hsq7 : St I w0 wq7 [Ch.blk g2 [va2, va3] 75, Ch.blk g1 [va0, va1] 75, F])
  obtain rfl := Eq.symm hf
  clear haq6 hsq6 aq6 wq6
  obtain ⟨r1, e1, hm⟩ := bind_some hm
  refine seq_op0 haq7 hsq7 (opT_call (args := #[va0, va2, .func (.func 61) #[] #[]]) (first := #[]) (captured := #[]) en139 rfl rfl rfl (c_g_slices_EqualFunc_S_Automaton_S_Automaton_Automaton_Automaton p0a.1 p1b.1 (fun a0 a1 => m_i_EqualAutomata a0 a1) _ e1 va0 va2 (.func (.func 61) #[] #[]) ra0 ra2 ⟨isFn, fun J1 hJ1 b1_0 b1_1 r hm k1_0 k1_1 k1_2 k1_3 l1_0 l1_1 l1_2 l1_3 => ⟨61, #[], #[], rfl, en61, c_i_EqualAutomata b1_0 b1_1 _ hm k1_0 k1_1 k1_2 k1_3 l1_0 l1_1 l1_2 l1_3⟩⟩)) rfl rfl ?_
  rintro u aq8 wq8 hf haq8 hsq8
  obtain rfl := Eq.symm hf
  clear haq7 hsq7 aq7 wq7
  refine seq_op0 haq8 hsq8 (opT_move (v := .bool r1) rfl rfl) rfl rfl ?_
  rintro u aq9 wq9 hf haq9 hsq9
  obtain rfl := Eq.symm hf
  clear haq8 hsq8 aq8 wq8
  rcases two (r1) with hb1 | hb1
  · replace hm := ifFe hb1 hm
    refine seq_skip (g := 5) (d := 10) (want := true) (b := r1) haq9 hsq9 rfl rfl rfl hb1 rfl ?_
    intro aq10 haq10
    refine seq_skip (g := 5) (d := 10) (want := true) (b := r1) haq10 hsq9 rfl rfl rfl hb1 rfl ?_
    intro aq11 haq11
    refine seq_skip (g := 5) (d := 10) (want := true) (b := r1) haq11 hsq9 rfl rfl rfl hb1 rfl ?_
    intro aq12 haq12
    refine seq_skip (g := 5) (d := 10) (want := true) (b := r1) haq12 hsq9 rfl rfl rfl hb1 rfl ?_
    intro aq13 haq13
    refine seq_skip (g := 5) (d := 10) (want := true) (b := r1) haq13 hsq9 rfl rfl rfl hb1 rfl ?_
    intro aq14 haq14
    refine seq_op0 haq14 hsq9 (opT_pick (b := r1) (v := .bool false) rfl rfl (ifF hb1)) rfl rfl ?_
    rintro u aq15 wq15 hf haq15 hsq15
    obtain rfl := Eq.symm hf
    clear haq14 hsq9 aq14 wq9
    refine seq_op0 haq15 hsq15 (opT_assign (v := .bool false) rfl rfl) rfl rfl ?_
    rintro u aq16 wq16 hf haq16 hsq16
    obtain rfl := Eq.symm hf
    clear haq15 hsq15 aq15 wq15
    refine wpList_nil ?_
    replace haq16 := haq16.pick' (L' := [(4, .bool false)]) ⟨rfl, trivial⟩
    refine nrm ?_
    refine wp_ret ?_
    obtain rfl := Option.some.inj hm
    exact ret_1 haq16 rfl (res_tmp haq16 rfl) ⟨_, rfl, rfl, _, Hp.le.rfl, St.sel (hsq16) 3 [2] rfl rfl⟩
  · replace hm := ifTe hb1 hm
    refine seq_op_g0 (g := 5) (d := 10) (want := true) (b := r1) haq9 hsq9 rfl rfl rfl hb1 (opT_field_addr (g := g1) (b := 0) tf75_1 rfl rfl) rfl ?_
    rintro u aq17 wq17 hf haq17 hsq17
    obtain rfl := Eq.symm hf
    clear haq9 hsq9 aq9 wq9
    refine seq_op_g (g := 5) (d := 10) (want := true) (b := r1) haq17 hsq17 rfl rfl rfl hb1 (opT_load_blk (g := g1) (off := 1) (E := 75) (l := [va0, va1]) (d := [va1]) (u := va1) ti73 rfl rfl rfl rfl rfl rfl) (perm_front (i := 1) rfl) rfl ?_
    rintro u aq18 wq18 hf haq18 (hsq18 : St I w0 wq18 [Ch.blk g1 [va0, va1] 75, Ch.blk g2 [va2, va3] 75, F])
    obtain rfl := Eq.symm hf
    clear haq17 hsq17 aq17 wq17
    refine seq_op_g0 (g := 5) (d := 10) (want := true) (b := r1) haq18 hsq18 rfl rfl rfl hb1 (opT_field_addr (g := g2) (b := 0) tf75_1 rfl rfl) rfl ?_
    rintro u aq19 wq19 hf haq19 hsq19
    obtain rfl := Eq.symm hf
    clear haq18 hsq18 aq18 wq18
    refine seq_op_g (g := 5) (d := 10) (want := true) (b := r1) haq19 hsq19 rfl rfl rfl hb1 (opT_load_blk (g := g2) (off := 1) (E := 75) (l := [va2, va3]) (d := [va3]) (u := va3) ti73 rfl rfl rfl rfl rfl rfl) (perm_front (i := 1) rfl) rfl ?_
    rintro u aq20 wq20 hf haq20 (hsq20 : St I w0 wq20 [Ch.blk g2 [va2, va3] 75, Ch.blk g1 [va0, va1] 75, F])
    obtain rfl := Eq.symm hf
    clear haq19 hsq19 aq19 wq19
    obtain ⟨r2, e2, hm⟩ := bind_some hm
    refine seq_op_g0 (g := 5) (d := 10) (want := true) (b := r1) haq20 hsq20 rfl rfl rfl hb1 (opT_call (args := #[va1, va3, .func (.func 141) #[] #[]]) (first := #[]) (captured := #[]) en140 rfl rfl rfl (c_g_slices_EqualFunc_S_Registered_S_Registered_Registered_Registered p0a.2 p1b.2 (fun a0 a1 => m_i_equalQueries a0 a1) _ e2 va1 va3 (.func (.func 141) #[] #[]) ra1 ra3 ⟨isFn, fun J2 hJ2 b2_0 b2_1 r hm k2_0 k2_1 l2_0 l2_1 => ⟨141, #[], #[], rfl, en141, c_i_equalQueries b2_0 b2_1 _ hm k2_0 k2_1 l2_0 l2_1⟩⟩)) rfl ?_
    rintro u aq21 wq21 hf haq21 hsq21
    obtain rfl := Eq.symm hf
    clear haq20 hsq20 aq20 wq20
    refine seq_op0 haq21 hsq21 (opT_pick (b := r1) (v := .bool r2) rfl rfl (ifT hb1)) rfl rfl ?_
    rintro u aq22 wq22 hf haq22 hsq22
    obtain rfl := Eq.symm hf
    clear haq21 hsq21 aq21 wq21
    refine seq_op0 haq22 hsq22 (opT_assign (v := .bool r2) rfl rfl) rfl rfl ?_
    rintro u aq23 wq23 hf haq23 hsq23
    obtain rfl := Eq.symm hf
    clear haq22 hsq22 aq22 wq22
    refine wpList_nil ?_
    replace haq23 := haq23.pick' (L' := [(4, .bool r2)]) ⟨rfl, trivial⟩
    refine nrm ?_
    refine wp_ret ?_
    obtain rfl := Option.some.inj hm
    exact ret_1 haq23 rfl (res_tmp haq23 rfl) ⟨_, rfl, rfl, _, Hp.le.rfl, St.sel (hsq23) 3 [2] rfl rfl⟩
set_option maxHeartbeats 8000000 in
theorem c_w_szHistory (p0a : Int × (List ((List Int) × (List (Int × Int × Int × Int))))) (p1left : Int) (r : Int) (hm : m_w_szHistory p0a p1left = some r) {I : Hp} {w0 : World} (va0 : Value) (ra0 : (rSlice 37 (rProd (rSlice 3 rInt) (rSlice 128 (rProd rInt (rProd rInt (rProd rInt rInt)))))).rd I [va0] p0a.2) : Con Try.prog 78 #[.agg #[.int .i64 p0a.1, va0], .int .i64 p1left] I w0 [] (fun v => v = .int .i64 r) (fun v => []) := by
  refine con_of_wp (n := 12) [(0, .agg #[.int .i64 p0a.1, va0]), (1, .int .i64 p1left)] Try.func78 rfl rfl (Nat.le_of_ble_eq_true rfl) (args_all ⟨rfl, rfl, trivial⟩) (fun F w a ha hs => ?_) (fun v => trivial)
  unfold m_w_szHistory at hm
  refine wp_seq ?_
  refine wp_region_lit ?_
  refine seq_op ha hs rfl (opT_box (u := .agg #[.int .i64 p0a.1, va0]) (l := [.int .i64 p0a.1, va0]) rfl rfl rfl) (List.Perm.refl _) rfl ?_
  rintro _ aq1 wq1 ⟨g1, rfl⟩ haq1 (hsq1 : St I w0 wq1 [Ch.blk g1 [.int .i64 p0a.1, va0] 59, F])
  clear ha hs a w
  refine seq_op0 haq1 hsq1 (opT_assign (v := .int .i64 0) rfl rfl) rfl rfl ?_
  rintro u aq2 wq2 hf haq2 hsq2
  obtain rfl := Eq.symm hf
  clear haq1 hsq1 aq1 wq1
  refine wpList_nil ?_
  replace haq2 := haq2.pick' (L' := [(1, .int .i64 p1left), (2, .pointer (some ⟨g1, 0, none⟩))]) ⟨rfl, rfl, trivial⟩
  refine nrm ?_
  refine wp_seq ?_
  refine wp_region_lit ?_
  refine seq_op0 haq2 hsq2 (opT_field_addr (g := g1) (b := 0) tf59_1 rfl rfl) rfl rfl ?_
  rintro u aq3 wq3 hf haq3 hsq3
  obtain rfl := Eq.symm hf
  clear haq2 hsq2 aq2 wq2
  refine seq_op haq3 hsq3 rfl (opT_load_blk (g := g1) (off := 1) (E := 59) (l := [.int .i64 p0a.1, va0]) (d := [va0]) (u := va0) ti57 rfl rfl rfl rfl rfl rfl) (perm_front (i := 0) rfl) rfl ?_
  rintro u aq4 wq4 hf haq4 (hsq4 : St I w0 wq4 [Ch.blk g1 [.int .i64 p0a.1, va0] 59, F])
  obtain rfl := Eq.symm hf
  clear haq3 hsq3 aq3 wq3
  refine seq_op0 haq4 hsq4 (opT_move (v := .int .i64 p1left) rfl rfl) rfl rfl ?_
  rintro u aq5 wq5 hf haq5 hsq5
  obtain rfl := Eq.symm hf
  clear haq4 hsq4 aq4 wq4
  obtain ⟨r1, e1, hm⟩ := bind_some hm
  refine seq_op0 haq5 hsq5 (opT_call (args := #[va0, .int .i64 p1left]) (first := #[]) (captured := #[]) en128 rfl rfl rfl (c_w_szGraphS p0a.2 p1left _ e1 va0 ra0)) rfl rfl ?_
  rintro u aq6 wq6 hf haq6 hsq6
  obtain rfl := Eq.symm hf
  clear haq5 hsq5 aq5 wq5
  refine seq_op0 haq6 hsq6 (opT_assign (v := .int .i64 r1) rfl rfl) rfl rfl ?_
  rintro u aq7 wq7 hf haq7 hsq7
  obtain rfl := Eq.symm hf
  clear haq6 hsq6 aq6 wq6
  refine wpList_nil ?_
  replace haq7 := haq7.pick' (L' := [(1, .int .i64 r1)]) ⟨rfl, trivial⟩
  refine nrm ?_
  refine wp_seq ?_
  refine wp_seq ?_
  refine wp_region_lit ?_
  refine seq_op0 haq7 hsq7 (opT_move (v := .int .i64 r1) rfl rfl) rfl rfl ?_
  rintro u aq8 wq8 hf haq8 hsq8
  obtain rfl := Eq.symm hf
  clear haq7 hsq7 aq7 wq7
  refine seq_op0 haq8 hsq8 (opT_cmp (k := .i64) (m := r1) (n := 0) (c := decide (r1 < 0)) rfl rfl rfl rfl rfl) rfl rfl ?_
  rintro u aq9 wq9 hf haq9 hsq9
  obtain rfl := Eq.symm hf
  clear haq8 hsq8 aq8 wq8
  refine wpList_nil ?_
  replace haq9 := haq9.pick' (L' := [(1, .int .i64 r1), (10, .bool (decide (r1 < 0)))]) ⟨rfl, rfl, trivial⟩
  refine nrm ?_
  rcases two (decide (r1 < 0)) with hb1 | hb1
  · replace hm := ifFe hb1 hm
    refine cnd_false (b := decide (r1 < 0)) haq9 rfl rfl hb1 ?_
    refine wp_skip ?_
    refine nrm ?_
    refine wp_seq ?_
    refine wp_region_lit ?_
    refine seq_op0 haq9 hsq9 (opT_move (v := .int .i64 r1) rfl rfl) rfl rfl ?_
    rintro u aq10 wq10 hf haq10 hsq10
    obtain rfl := Eq.symm hf
    clear haq9 hsq9 aq9 wq9
    refine seq_op0 haq10 hsq10 (opT_assign (v := .int .i64 r1) rfl rfl) rfl rfl ?_
    rintro u aq11 wq11 hf haq11 hsq11
    obtain rfl := Eq.symm hf
    clear haq10 hsq10 aq10 wq10
    refine wpList_nil ?_
    replace haq11 := haq11.pick' (L' := [(4, .int .i64 r1)]) ⟨rfl, trivial⟩
    refine nrm ?_
    refine wp_ret ?_
    obtain rfl := Option.some.inj hm
    exact ret_1 haq11 rfl (res_tmp haq11 rfl) ⟨_, rfl, rfl, _, Hp.le.rfl, St.sel (hsq11) 2 [1] rfl rfl⟩
  · replace hm := ifTe hb1 hm
    refine cnd_true (b := decide (r1 < 0)) haq9 rfl rfl hb1 ?_
    refine wp_seq ?_
    refine wp_region_lit ?_
    refine seq_op0 haq9 hsq9 (opT_assign (v := .int .i64 (-1)) rfl rfl) rfl rfl ?_
    rintro u aq12 wq12 hf haq12 hsq12
    obtain rfl := Eq.symm hf
    clear haq9 hsq9 aq9 wq9
    refine wpList_nil ?_
    replace haq12 := haq12.pick' (L' := [(4, .int .i64 (-1))]) ⟨rfl, trivial⟩
    refine nrm ?_
    refine wp_ret ?_
    refine thenR ?_
    obtain rfl := Option.some.inj hm
    exact ret_1 haq12 rfl (res_tmp haq12 rfl) ⟨_, rfl, rfl, _, Hp.le.rfl, St.sel (hsq12) 2 [1] rfl rfl⟩
end Go.Proofs.Ytcihbmdppgpmjaa.D
