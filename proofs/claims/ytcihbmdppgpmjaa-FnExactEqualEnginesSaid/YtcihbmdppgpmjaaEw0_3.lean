/- Printed by dec.py: models of functions and the walks that show them. -/
import Derived.Test.YtcihbmdppgpmjaaEm
set_option linter.unusedVariables false
set_option linter.unusedSimpArgs false
set_option linter.unnecessarySimpa false
set_option maxRecDepth 100000
namespace Go.Proofs.Ytcihbmdppgpmjaa.D
open Go.RowKit
set_option maxHeartbeats 8000000 in
theorem c_g_slices_EqualFunc_S_Automaton_S_Automaton_Automaton_Automaton (p0s1 : List (Int × (List Bool) × (List (List Int)))) (p1s2 : List (Int × (List Bool) × (List (List Int)))) (p2eq : (Int × (List Bool) × (List (List Int))) → (Int × (List Bool) × (List (List Int))) → Option Bool) (r : Bool) (hm : m_g_slices_EqualFunc_S_Automaton_S_Automaton_Automaton_Automaton p0s1 p1s2 p2eq = some r) {I : Hp} {w0 : World} (va0 : Value) (va1 : Value) (va2 : Value) (ra0 : (rSlice 27 (rProd rInt (rProd (rSlice 4 rBool) (rSlice 34 (rSlice 3 rInt))))).rd I [va0] p0s1) (ra1 : (rSlice 27 (rProd rInt (rProd (rSlice 4 rBool) (rSlice 34 (rSlice 3 rInt))))).rd I [va1] p1s2) (ra2 : fn30 w0 I va2 p2eq) : Con Try.prog 139 #[va0, va1, va2] I w0 [] (fun v => v = .bool r) (fun v => []) := by
  refine con_of_wp (n := 32) [(0, va0), (1, va1), (2, va2)] Try.func139 rfl rfl (Nat.le_of_ble_eq_true rfl) (args_all ⟨rfl, rfl, rfl, trivial⟩) (fun F w a ha hs => ?_) (fun v => trivial)
  unfold m_g_slices_EqualFunc_S_Automaton_S_Automaton_Automaton_Automaton at hm
  refine wp_seq ?_
  refine wp_region_lit ?_
  refine seq_op0 ha hs (opT_assign (v := .bool false) rfl rfl) rfl rfl ?_
  rintro u aq1 wq1 hf haq1 hsq1
  obtain rfl := Eq.symm hf
  clear ha hs a w
  refine wpList_nil ?_
  replace haq1 := haq1.pick' (L' := [(0, va0), (1, va1), (2, va2)]) ⟨rfl, rfl, rfl, trivial⟩
  refine nrm ?_
  refine wp_seq ?_
  refine wp_seq ?_
  refine wp_region_lit ?_
  refine seq_op0 haq1 hsq1 (opT_move (v := va0) rfl rfl) rfl rfl ?_
  rintro u aq2 wq2 hf haq2 hsq2
  obtain rfl := Eq.symm hf
  clear haq1 hsq1 aq1 wq1
  refine seq_op0 haq2 hsq2 (opT_len_hd (v := va0) (n := p0s1.length) (Hd.of_rd ra0) Try.underlying72 rfl rfl) rfl rfl ?_
  rintro u aq3 wq3 hf haq3 hsq3
  obtain rfl := Eq.symm hf
  clear haq2 hsq2 aq2 wq2
  refine seq_op0 haq3 hsq3 (opT_move (v := va1) rfl rfl) rfl rfl ?_
  rintro u aq4 wq4 hf haq4 hsq4
  obtain rfl := Eq.symm hf
  clear haq3 hsq3 aq3 wq3
  refine seq_op0 haq4 hsq4 (opT_len_hd (v := va1) (n := p1s2.length) (Hd.of_rd ra1) Try.underlying72 rfl rfl) rfl rfl ?_
  rintro u aq5 wq5 hf haq5 hsq5
  obtain rfl := Eq.symm hf
  clear haq4 hsq4 aq4 wq4
  refine seq_op0 haq5 hsq5 (opT_cmp (k := .i64) (m := (p0s1.length : Int)) (n := (p1s2.length : Int)) (c := (p0s1.length : Int) != (p1s2.length : Int)) rfl rfl rfl rfl rfl) rfl rfl ?_
  rintro u aq6 wq6 hf haq6 hsq6
  obtain rfl := Eq.symm hf
  clear haq5 hsq5 aq5 wq5
  refine wpList_nil ?_
  replace haq6 := haq6.pick' (L' := [(0, va0), (1, va1), (2, va2), (14, .bool ((p0s1.length : Int) != (p1s2.length : Int)))]) ⟨rfl, rfl, rfl, rfl, trivial⟩
  refine nrm ?_
  rcases two ((p0s1.length : Int) != (p1s2.length : Int)) with hb1 | hb1
  · replace hm := ifFe hb1 hm
    refine cnd_false (b := (p0s1.length : Int) != (p1s2.length : Int)) haq6 rfl rfl hb1 ?_
    refine wp_skip ?_
    refine nrm ?_
    refine wp_seq ?_
    refine wp_seq ?_
    refine wp_region_lit ?_
    refine seq_op0 haq6 hsq6 (opT_move (v := va0) rfl rfl) rfl rfl ?_
    rintro u aq7 wq7 hf haq7 hsq7
    obtain rfl := Eq.symm hf
    clear haq6 hsq6 aq6 wq6
    refine seq_op0 haq7 hsq7 (opT_len_hd (v := va0) (n := p0s1.length) (Hd.of_rd ra0) Try.underlying72 rfl rfl) rfl rfl ?_
    rintro u aq8 wq8 hf haq8 hsq8
    obtain rfl := Eq.symm hf
    clear haq7 hsq7 aq7 wq7
    refine seq_op0 haq8 hsq8 (opT_move (v := .int .i64 0) rfl rfl) rfl rfl ?_
    rintro u aq9 wq9 hf haq9 hsq9
    obtain rfl := Eq.symm hf
    clear haq8 hsq8 aq8 wq8
    refine wpList_nil ?_
    replace haq9 := haq9.pick' (L' := [(1, va1), (2, va2), (15, va0), (16, .int .i64 (p0s1.length : Int)), (17, .int .i64 0)]) ⟨rfl, rfl, rfl, rfl, rfl, trivial⟩
    refine nrm ?_
    obtain ⟨o1, hl1, hc1⟩ := bindL_some hm
    refine wp_cut (fun a w => ∃ s4 : Int, o1 = .brk s4 ∧ Agr 32 a [] ∧ St I w0 w [F]) ?_ ?_
    · refine wp_block (wp_loopM (R := Bool) (S := Int) (fun s3 a w => Agr 32 a [(1, va1), (2, va2), (15, va0), (16, .int .i64 (p0s1.length : Int)), (17, .int .i64 s3)] ∧ St I w0 w [F]) hl1 ?_ ?_)
      · exact ⟨haq9.pick' ⟨rfl, rfl, rfl, rfl, rfl, trivial⟩, St.sel hsq9 1 [0] rfl rfl⟩
      · rintro s3 o2 hm hf1 aq52 wq52 ⟨haq52, hsq52⟩
        unfold m_g_slices_EqualFunc_S_Automaton_S_Automaton_Automaton_Automaton_l0 at hm
        refine wp_seq ?_
        refine wp_region_lit ?_
        refine seq_op0 haq52 hsq52 (opT_cmp (k := .i64) (m := s3) (n := (p0s1.length : Int)) (c := decide (s3 < (p0s1.length : Int))) rfl rfl rfl rfl rfl) rfl rfl ?_
        rintro u aq53 wq53 hf haq53 hsq53
        obtain rfl := Eq.symm hf
        clear haq52 hsq52 aq52 wq52
        refine wpList_nil ?_
        replace haq53 := haq53.pick' (L' := [(1, va1), (2, va2), (15, va0), (16, .int .i64 (p0s1.length : Int)), (17, .int .i64 s3), (18, .bool (decide (s3 < (p0s1.length : Int))))]) ⟨rfl, rfl, rfl, rfl, rfl, rfl, trivial⟩
        refine nrm ?_
        refine wp_seq ?_
        rcases two (decide (s3 < (p0s1.length : Int))) with hb6 | hb6
        · replace hm := ifFe hb6 hm
          refine cnd_false (b := decide (s3 < (p0s1.length : Int))) haq53 rfl rfl hb6 ?_
          refine wp_exit ?_
          refine thenX ?_
          refine thenX ?_
          refine ex_in ?_
          refine nrm ?_
          exact ⟨_, loopBrk hm hf1, ⟨haq53.pick' trivial, St.sel hsq53 1 [0] rfl rfl⟩⟩
        · replace hm := ifTe hb6 hm
          refine cnd_true (b := decide (s3 < (p0s1.length : Int))) haq53 rfl rfl hb6 ?_
          refine wp_skip ?_
          refine nrm ?_
          refine wp_seq ?_
          refine wp_block ?_
          refine wp_seq ?_
          refine wp_region_lit ?_
          refine seq_op0 haq53 hsq53 (opT_move (v := .int .i64 s3) rfl rfl) rfl rfl ?_
          rintro u aq54 wq54 hf haq54 hsq54
          obtain rfl := Eq.symm hf
          clear haq53 hsq53 aq53 wq53
          obtain ⟨x5, e7, hm⟩ := bind_some hm
          refine seq_op0 haq54 hsq54 (opT_index_hd (xs := p0s1) (i := s3) (n := 3) (Hd.of_rd ra0) Try.underlying72 ti27 rfl rfl rfl (getI_in e7)) rfl rfl ?_
          rintro u aq55 wq55 hf haq55 hsq55
          obtain rfl := Eq.symm hf
          clear haq54 hsq54 aq54 wq54
          refine seq_op0 haq55 hsq55 (opT_load_el (S := rProd rInt (rProd (rSlice 4 rBool) (rSlice 34 (rSlice 3 rInt)))) (xs := p0s1) (a := x5) (i := s3) (k := 3) (off := 0) (f := fun (x : Int × (List Bool) × (List (List Int))) => x) ra0 e7 Fld.self ti27 rfl rfl rfl rfl rfl) rfl rfl ?_
          rintro u aq56 wq56 ⟨d, hd, hf⟩ haq56 hsq56
          obtain ⟨_, _, rfl, rfl, ⟨_, _, rfl, r110, r120⟩⟩ := hd
          obtain ⟨v9, rfl⟩ := one_cell r110 rfl
          have r11 := r110; clear r110
          obtain ⟨v10, rfl⟩ := one_cell r120 rfl
          have r12 := r120; clear r120
          obtain rfl : u = .agg #[.int .i64 x5.1, v9, v10] := hf
          clear haq55 hsq55 aq55 wq55
          refine seq_op haq56 hsq56 rfl (opT_alloc (l := [.int .i64 0, .slice none 0 0, .slice none 0 0]) tz27 rfl rfl) (List.Perm.refl _) rfl ?_
          rintro _ aq57 wq57 ⟨g5, rfl⟩ haq57 (hsq57 : St I w0 wq57 [Ch.blk g5 [.int .i64 0, .slice none 0 0, .slice none 0 0] 27, F])
          clear haq56 hsq56 aq56 wq56
          refine seq_op0 haq57 hsq57 (opT_assign (v := .int .i64 s3) rfl rfl) rfl rfl ?_
          rintro u aq58 wq58 hf haq58 hsq58
          obtain rfl := Eq.symm hf
          clear haq57 hsq57 aq57 wq57
          refine seq_op haq58 hsq58 rfl (opT_store_blk (g := g5) (off := 0) (l := [.int .i64 0, .slice none 0 0, .slice none 0 0]) (d := [.int .i64 x5.1, v9, v10]) (E := 27) (u := .agg #[.int .i64 x5.1, v9, v10]) ti27 rfl rfl rfl rfl rfl (allC rfl (allC (Hd.one (Hd.of_rd r11)) (allC (Hd.one (Hd.of_rd r12)) allN))) (Nat.le_of_ble_eq_true rfl)) (perm_front (i := 0) rfl) rfl ?_
          rintro _ aq59 wq59 - haq59 (hsq59 : St I w0 wq59 [Ch.blk g5 [.int .i64 x5.1, v9, v10] 27, F])
          clear haq58 hsq58 aq58 wq58
          refine wpList_nil ?_
          replace haq59 := haq59.pick' (L' := [(1, va1), (2, va2), (7, .int .i64 s3), (8, .pointer (some ⟨g5, 0, none⟩)), (15, va0), (16, .int .i64 (p0s1.length : Int)), (17, .int .i64 s3)]) ⟨rfl, rfl, rfl, rfl, rfl, rfl, rfl, trivial⟩
          refine nrm ?_
          refine wp_seq ?_
          refine wp_region_lit ?_
          refine seq_op0 haq59 hsq59 (opT_move (v := va1) rfl rfl) rfl rfl ?_
          rintro u aq60 wq60 hf haq60 hsq60
          obtain rfl := Eq.symm hf
          clear haq59 hsq59 aq59 wq59
          refine seq_op0 haq60 hsq60 (opT_move (v := .int .i64 s3) rfl rfl) rfl rfl ?_
          rintro u aq61 wq61 hf haq61 hsq61
          obtain rfl := Eq.symm hf
          clear haq60 hsq60 aq60 wq60
          obtain ⟨x6, e8, hm⟩ := bind_some hm
          refine seq_op0 haq61 hsq61 (opT_index_hd (xs := p1s2) (i := s3) (n := 3) (Hd.of_rd ra1) Try.underlying72 ti27 rfl rfl rfl (getI_in e8)) rfl rfl ?_
          rintro u aq62 wq62 hf haq62 hsq62
          obtain rfl := Eq.symm hf
          clear haq61 hsq61 aq61 wq61
          refine seq_op0 haq62 hsq62 (opT_load_el (S := rProd rInt (rProd (rSlice 4 rBool) (rSlice 34 (rSlice 3 rInt)))) (xs := p1s2) (a := x6) (i := s3) (k := 3) (off := 0) (f := fun (x : Int × (List Bool) × (List (List Int))) => x) ra1 e8 Fld.self ti27 rfl rfl rfl rfl rfl) rfl rfl ?_
          rintro u aq63 wq63 ⟨d, hd, hf⟩ haq63 hsq63
          obtain ⟨_, _, rfl, rfl, ⟨_, _, rfl, r130, r140⟩⟩ := hd
          obtain ⟨v11, rfl⟩ := one_cell r130 rfl
          have r13 := r130; clear r130
          obtain ⟨v12, rfl⟩ := one_cell r140 rfl
          have r14 := r140; clear r140
          obtain rfl : u = .agg #[.int .i64 x6.1, v11, v12] := hf
          clear haq62 hsq62 aq62 wq62
          refine seq_op haq63 hsq63 rfl (opT_alloc (l := [.int .i64 0, .slice none 0 0, .slice none 0 0]) tz27 rfl rfl) (List.Perm.refl _) rfl ?_
          rintro _ aq64 wq64 ⟨g6, rfl⟩ haq64 (hsq64 : St I w0 wq64 [Ch.blk g6 [.int .i64 0, .slice none 0 0, .slice none 0 0] 27, Ch.blk g5 [.int .i64 x5.1, v9, v10] 27, F])
          clear haq63 hsq63 aq63 wq63
          refine seq_op haq64 hsq64 rfl (opT_store_blk (g := g6) (off := 0) (l := [.int .i64 0, .slice none 0 0, .slice none 0 0]) (d := [.int .i64 x6.1, v11, v12]) (E := 27) (u := .agg #[.int .i64 x6.1, v11, v12]) ti27 rfl rfl rfl rfl rfl (allC rfl (allC (Hd.one (Hd.of_rd r13)) (allC (Hd.one (Hd.of_rd r14)) allN))) (Nat.le_of_ble_eq_true rfl)) (perm_front (i := 0) rfl) rfl ?_
          rintro _ aq65 wq65 - haq65 (hsq65 : St I w0 wq65 [Ch.blk g6 [.int .i64 x6.1, v11, v12] 27, Ch.blk g5 [.int .i64 x5.1, v9, v10] 27, F])
          clear haq64 hsq64 aq64 wq64
          refine wpList_nil ?_
          replace haq65 := haq65.pick' (L' := [(1, va1), (2, va2), (8, .pointer (some ⟨g5, 0, none⟩)), (9, .pointer (some ⟨g6, 0, none⟩)), (15, va0), (16, .int .i64 (p0s1.length : Int)), (17, .int .i64 s3)]) ⟨rfl, rfl, rfl, rfl, rfl, rfl, rfl, trivial⟩
          refine nrm ?_
          refine wp_seq ?_
          refine wp_region_lit ?_
          refine seq_op0 haq65 hsq65 (opT_move (v := va2) rfl rfl) rfl rfl ?_
          rintro u aq66 wq66 hf haq66 hsq66
          obtain rfl := Eq.symm hf
          clear haq65 hsq65 aq65 wq65
          refine seq_op haq66 hsq66 rfl (opT_load_blk (g := g5) (off := 0) (E := 27) (l := [.int .i64 x5.1, v9, v10]) (d := [.int .i64 x5.1, v9, v10]) (u := .agg #[.int .i64 x5.1, v9, v10]) ti27 rfl rfl rfl rfl rfl rfl) (perm_front (i := 1) rfl) rfl ?_
          rintro u aq67 wq67 hf haq67 (hsq67 : St I w0 wq67 [Ch.blk g5 [.int .i64 x5.1, v9, v10] 27, Ch.blk g6 [.int .i64 x6.1, v11, v12] 27, F])
          obtain rfl := Eq.symm hf
          clear haq66 hsq66 aq66 wq66
          refine seq_op haq67 hsq67 rfl (opT_load_blk (g := g6) (off := 0) (E := 27) (l := [.int .i64 x6.1, v11, v12]) (d := [.int .i64 x6.1, v11, v12]) (u := .agg #[.int .i64 x6.1, v11, v12]) ti27 rfl rfl rfl rfl rfl rfl) (perm_front (i := 1) rfl) rfl ?_
          rintro u aq68 wq68 hf haq68 (hsq68 : St I w0 wq68 [Ch.blk g6 [.int .i64 x6.1, v11, v12] 27, Ch.blk g5 [.int .i64 x5.1, v9, v10] 27, F])
          obtain rfl := Eq.symm hf
          clear haq67 hsq67 aq67 wq67
          obtain ⟨r15, e9, hm⟩ := bind_some hm
          refine seq_op0 haq68 hsq68 (opT_call_clo (v := va2) (args := [.agg #[.int .i64 x5.1, v9, v10], .agg #[.int .i64 x6.1, v11, v12]]) (ra2.2 _ Hp.le.rfl (x5.1, x5.2.1, x5.2.2) (x6.1, x6.2.1, x6.2.2) _ e9 v9 v10 v11 v12 r11 r12 r13 r14) rfl rfl rfl) rfl rfl ?_
          rintro u aq69 wq69 hf haq69 hsq69
          obtain rfl := Eq.symm hf
          clear haq68 hsq68 aq68 wq68
          refine seq_op0 haq69 hsq69 (opT_not (b := r15) rfl rfl) rfl rfl ?_
          rintro u aq70 wq70 hf haq70 hsq70
          obtain rfl := Eq.symm hf
          clear haq69 hsq69 aq69 wq69
          refine wpList_nil ?_
          replace haq70 := haq70.pick' (L' := [(1, va1), (2, va2), (15, va0), (16, .int .i64 (p0s1.length : Int)), (17, .int .i64 s3), (30, .bool (!r15))]) ⟨rfl, rfl, rfl, rfl, rfl, rfl, trivial⟩
          refine nrm ?_
          rcases two (r15) with hb7 | hb7
          · replace hm := ifFe hb7 hm
            refine cnd_true (b := !r15) haq70 rfl rfl (notT hb7) ?_
            refine wp_seq ?_
            refine wp_region_lit ?_
            refine seq_op0 haq70 hsq70 (opT_assign (v := .bool false) rfl rfl) rfl rfl ?_
            rintro u aq71 wq71 hf haq71 hsq71
            obtain rfl := Eq.symm hf
            clear haq70 hsq70 aq70 wq70
            refine wpList_nil ?_
            replace haq71 := haq71.pick' (L' := [(6, .bool false)]) ⟨rfl, trivial⟩
            refine nrm ?_
            refine wp_ret ?_
            refine blkR ?_
            refine thenR ?_
            refine thenR ?_
            refine blkR ?_
            refine thenR ?_
            refine thenR ?_
            replace hm := loopRet hm hf1 hc1
            obtain rfl := Option.some.inj hm
            exact ret_1 haq71 rfl (res_tmp haq71 rfl) ⟨_, rfl, rfl, _, Hp.le.rfl, St.sel (hsq71) 3 [2] rfl rfl⟩
          · replace hm := ifTe hb7 hm
            refine cnd_false (b := !r15) haq70 rfl rfl (notF hb7) ?_
            refine wp_skip ?_
            refine nrmB ?_
            refine nrm ?_
            refine wp_region_lit ?_
            refine seq_op0 haq70 hsq70 (opT_add (m := s3) (n := 1) rfl rfl rfl) rfl rfl ?_
            rintro u aq72 wq72 hf haq72 hsq72
            obtain rfl := Eq.symm hf
            clear haq70 hsq70 aq70 wq70
            refine seq_op0 haq72 hsq72 (opT_move (v := .int .i64 (IntKind.i64.wrap (s3 + 1))) rfl rfl) rfl rfl ?_
            rintro u aq73 wq73 hf haq73 hsq73
            obtain rfl := Eq.symm hf
            clear haq72 hsq72 aq72 wq72
            refine wpList_nil ?_
            replace haq73 := haq73.pick' (L' := [(1, va1), (2, va2), (15, va0), (16, .int .i64 (p0s1.length : Int)), (17, .int .i64 (IntKind.i64.wrap (s3 + 1)))]) ⟨rfl, rfl, rfl, rfl, rfl, trivial⟩
            refine nrm ?_
            exact ⟨_, (Option.some.inj hm).symm, ⟨haq73.pick' ⟨rfl, rfl, rfl, rfl, rfl, trivial⟩, St.sel hsq73 3 [2] rfl rfl⟩⟩
    · rintro aq74 wq74 ⟨s4, ho1, haq74, hsq74⟩
      replace hm := loopOut ho1 hc1
      clear ho1 hc1 hl1
      refine nrm ?_
      refine wp_seq ?_
      refine wp_region_lit ?_
      refine seq_op0 haq74 hsq74 (opT_assign (v := .bool true) rfl rfl) rfl rfl ?_
      rintro u aq75 wq75 hf haq75 hsq75
      obtain rfl := Eq.symm hf
      clear haq74 hsq74 aq74 wq74
      refine wpList_nil ?_
      replace haq75 := haq75.pick' (L' := [(6, .bool true)]) ⟨rfl, trivial⟩
      refine nrm ?_
      refine wp_ret ?_
      obtain rfl := Option.some.inj hm
      exact ret_1 haq75 rfl (res_tmp haq75 rfl) ⟨_, rfl, rfl, _, Hp.le.rfl, St.sel (hsq75) 1 [0] rfl rfl⟩
  · replace hm := ifTe hb1 hm
    refine cnd_true (b := (p0s1.length : Int) != (p1s2.length : Int)) haq6 rfl rfl hb1 ?_
    refine wp_seq ?_
    refine wp_region_lit ?_
    refine seq_op0 haq6 hsq6 (opT_assign (v := .bool false) rfl rfl) rfl rfl ?_
    rintro u aq76 wq76 hf haq76 hsq76
    obtain rfl := Eq.symm hf
    clear haq6 hsq6 aq6 wq6
    refine wpList_nil ?_
    replace haq76 := haq76.pick' (L' := [(6, .bool false)]) ⟨rfl, trivial⟩
    refine nrm ?_
    refine wp_ret ?_
    refine thenR ?_
    obtain rfl := Option.some.inj hm
    exact ret_1 haq76 rfl (res_tmp haq76 rfl) ⟨_, rfl, rfl, _, Hp.le.rfl, St.sel (hsq76) 1 [0] rfl rfl⟩
set_option maxHeartbeats 8000000 in
theorem c_g_slices_EqualFunc_S_Graph_S_Graph_Graph_Graph (p0s1 : List ((List Int) × (List (Int × Int × Int × Int)))) (p1s2 : List ((List Int) × (List (Int × Int × Int × Int)))) (p2eq : ((List Int) × (List (Int × Int × Int × Int))) → ((List Int) × (List (Int × Int × Int × Int))) → Option Bool) (r : Bool) (hm : m_g_slices_EqualFunc_S_Graph_S_Graph_Graph_Graph p0s1 p1s2 p2eq = some r) {I : Hp} {w0 : World} (va0 : Value) (va1 : Value) (va2 : Value) (ra0 : (rSlice 45 (rProd (rSlice 3 rInt) (rSlice 126 (rProd rInt (rProd rInt (rProd rInt rInt)))))).rd I [va0] p0s1) (ra1 : (rSlice 45 (rProd (rSlice 3 rInt) (rSlice 126 (rProd rInt (rProd rInt (rProd rInt rInt)))))).rd I [va1] p1s2) (ra2 : fn50 w0 I va2 p2eq) : Con Try.prog 137 #[va0, va1, va2] I w0 [] (fun v => v = .bool r) (fun v => []) := by
  refine con_of_wp (n := 32) [(0, va0), (1, va1), (2, va2)] Try.func137 rfl rfl (Nat.le_of_ble_eq_true rfl) (args_all ⟨rfl, rfl, rfl, trivial⟩) (fun F w a ha hs => ?_) (fun v => trivial)
  unfold m_g_slices_EqualFunc_S_Graph_S_Graph_Graph_Graph at hm
  refine wp_seq ?_
  refine wp_region_lit ?_
  refine seq_op0 ha hs (opT_assign (v := .bool false) rfl rfl) rfl rfl ?_
  rintro u aq1 wq1 hf haq1 hsq1
  obtain rfl := Eq.symm hf
  clear ha hs a w
  refine wpList_nil ?_
  replace haq1 := haq1.pick' (L' := [(0, va0), (1, va1), (2, va2)]) ⟨rfl, rfl, rfl, trivial⟩
  refine nrm ?_
  refine wp_seq ?_
  refine wp_seq ?_
  refine wp_region_lit ?_
  refine seq_op0 haq1 hsq1 (opT_move (v := va0) rfl rfl) rfl rfl ?_
  rintro u aq2 wq2 hf haq2 hsq2
  obtain rfl := Eq.symm hf
  clear haq1 hsq1 aq1 wq1
  refine seq_op0 haq2 hsq2 (opT_len_hd (v := va0) (n := p0s1.length) (Hd.of_rd ra0) Try.underlying69 rfl rfl) rfl rfl ?_
  rintro u aq3 wq3 hf haq3 hsq3
  obtain rfl := Eq.symm hf
  clear haq2 hsq2 aq2 wq2
  refine seq_op0 haq3 hsq3 (opT_move (v := va1) rfl rfl) rfl rfl ?_
  rintro u aq4 wq4 hf haq4 hsq4
  obtain rfl := Eq.symm hf
  clear haq3 hsq3 aq3 wq3
  refine seq_op0 haq4 hsq4 (opT_len_hd (v := va1) (n := p1s2.length) (Hd.of_rd ra1) Try.underlying69 rfl rfl) rfl rfl ?_
  rintro u aq5 wq5 hf haq5 hsq5
  obtain rfl := Eq.symm hf
  clear haq4 hsq4 aq4 wq4
  refine seq_op0 haq5 hsq5 (opT_cmp (k := .i64) (m := (p0s1.length : Int)) (n := (p1s2.length : Int)) (c := (p0s1.length : Int) != (p1s2.length : Int)) rfl rfl rfl rfl rfl) rfl rfl ?_
  rintro u aq6 wq6 hf haq6 hsq6
  obtain rfl := Eq.symm hf
  clear haq5 hsq5 aq5 wq5
  refine wpList_nil ?_
  replace haq6 := haq6.pick' (L' := [(0, va0), (1, va1), (2, va2), (14, .bool ((p0s1.length : Int) != (p1s2.length : Int)))]) ⟨rfl, rfl, rfl, rfl, trivial⟩
  refine nrm ?_
  rcases two ((p0s1.length : Int) != (p1s2.length : Int)) with hb1 | hb1
  · replace hm := ifFe hb1 hm
    refine cnd_false (b := (p0s1.length : Int) != (p1s2.length : Int)) haq6 rfl rfl hb1 ?_
    refine wp_skip ?_
    refine nrm ?_
    refine wp_seq ?_
    refine wp_seq ?_
    refine wp_region_lit ?_
    refine seq_op0 haq6 hsq6 (opT_move (v := va0) rfl rfl) rfl rfl ?_
    rintro u aq7 wq7 hf haq7 hsq7
    obtain rfl := Eq.symm hf
    clear haq6 hsq6 aq6 wq6
    refine seq_op0 haq7 hsq7 (opT_len_hd (v := va0) (n := p0s1.length) (Hd.of_rd ra0) Try.underlying69 rfl rfl) rfl rfl ?_
    rintro u aq8 wq8 hf haq8 hsq8
    obtain rfl := Eq.symm hf
    clear haq7 hsq7 aq7 wq7
    refine seq_op0 haq8 hsq8 (opT_move (v := .int .i64 0) rfl rfl) rfl rfl ?_
    rintro u aq9 wq9 hf haq9 hsq9
    obtain rfl := Eq.symm hf
    clear haq8 hsq8 aq8 wq8
    refine wpList_nil ?_
    replace haq9 := haq9.pick' (L' := [(1, va1), (2, va2), (15, va0), (16, .int .i64 (p0s1.length : Int)), (17, .int .i64 0)]) ⟨rfl, rfl, rfl, rfl, rfl, trivial⟩
    refine nrm ?_
    obtain ⟨o1, hl1, hc1⟩ := bindL_some hm
    refine wp_cut (fun a w => ∃ s4 : Int, o1 = .brk s4 ∧ Agr 32 a [] ∧ St I w0 w [F]) ?_ ?_
    · refine wp_block (wp_loopM (R := Bool) (S := Int) (fun s3 a w => Agr 32 a [(1, va1), (2, va2), (15, va0), (16, .int .i64 (p0s1.length : Int)), (17, .int .i64 s3)] ∧ St I w0 w [F]) hl1 ?_ ?_)
      · exact ⟨haq9.pick' ⟨rfl, rfl, rfl, rfl, rfl, trivial⟩, St.sel hsq9 1 [0] rfl rfl⟩
      · rintro s3 o2 hm hf1 aq52 wq52 ⟨haq52, hsq52⟩
        unfold m_g_slices_EqualFunc_S_Graph_S_Graph_Graph_Graph_l0 at hm
        refine wp_seq ?_
        refine wp_region_lit ?_
        refine seq_op0 haq52 hsq52 (opT_cmp (k := .i64) (m := s3) (n := (p0s1.length : Int)) (c := decide (s3 < (p0s1.length : Int))) rfl rfl rfl rfl rfl) rfl rfl ?_
        rintro u aq53 wq53 hf haq53 hsq53
        obtain rfl := Eq.symm hf
        clear haq52 hsq52 aq52 wq52
        refine wpList_nil ?_
        replace haq53 := haq53.pick' (L' := [(1, va1), (2, va2), (15, va0), (16, .int .i64 (p0s1.length : Int)), (17, .int .i64 s3), (18, .bool (decide (s3 < (p0s1.length : Int))))]) ⟨rfl, rfl, rfl, rfl, rfl, rfl, trivial⟩
        refine nrm ?_
        refine wp_seq ?_
        rcases two (decide (s3 < (p0s1.length : Int))) with hb6 | hb6
        · replace hm := ifFe hb6 hm
          refine cnd_false (b := decide (s3 < (p0s1.length : Int))) haq53 rfl rfl hb6 ?_
          refine wp_exit ?_
          refine thenX ?_
          refine thenX ?_
          refine ex_in ?_
          refine nrm ?_
          exact ⟨_, loopBrk hm hf1, ⟨haq53.pick' trivial, St.sel hsq53 1 [0] rfl rfl⟩⟩
        · replace hm := ifTe hb6 hm
          refine cnd_true (b := decide (s3 < (p0s1.length : Int))) haq53 rfl rfl hb6 ?_
          refine wp_skip ?_
          refine nrm ?_
          refine wp_seq ?_
          refine wp_block ?_
          refine wp_seq ?_
          refine wp_region_lit ?_
          refine seq_op0 haq53 hsq53 (opT_move (v := .int .i64 s3) rfl rfl) rfl rfl ?_
          rintro u aq54 wq54 hf haq54 hsq54
          obtain rfl := Eq.symm hf
          clear haq53 hsq53 aq53 wq53
          obtain ⟨x5, e7, hm⟩ := bind_some hm
          refine seq_op0 haq54 hsq54 (opT_index_hd (xs := p0s1) (i := s3) (n := 2) (Hd.of_rd ra0) Try.underlying69 ti45 rfl rfl rfl (getI_in e7)) rfl rfl ?_
          rintro u aq55 wq55 hf haq55 hsq55
          obtain rfl := Eq.symm hf
          clear haq54 hsq54 aq54 wq54
          refine seq_op0 haq55 hsq55 (opT_load_el (S := rProd (rSlice 3 rInt) (rSlice 126 (rProd rInt (rProd rInt (rProd rInt rInt))))) (xs := p0s1) (a := x5) (i := s3) (k := 2) (off := 0) (f := fun (x : (List Int) × (List (Int × Int × Int × Int))) => x) ra0 e7 Fld.self ti45 rfl rfl rfl rfl rfl) rfl rfl ?_
          rintro u aq56 wq56 ⟨d, hd, hf⟩ haq56 hsq56
          obtain ⟨_, _, rfl, r110, r120⟩ := hd
          obtain ⟨v9, rfl⟩ := one_cell r110 rfl
          have r11 := r110; clear r110
          obtain ⟨v10, rfl⟩ := one_cell r120 rfl
          have r12 := r120; clear r120
          obtain rfl : u = .agg #[v9, v10] := hf
          clear haq55 hsq55 aq55 wq55
          refine seq_op haq56 hsq56 rfl (opT_alloc (l := [.slice none 0 0, .slice none 0 0]) tz45 rfl rfl) (List.Perm.refl _) rfl ?_
          rintro _ aq57 wq57 ⟨g5, rfl⟩ haq57 (hsq57 : St I w0 wq57 [Ch.blk g5 [.slice none 0 0, .slice none 0 0] 45, F])
          clear haq56 hsq56 aq56 wq56
          refine seq_op0 haq57 hsq57 (opT_assign (v := .int .i64 s3) rfl rfl) rfl rfl ?_
          rintro u aq58 wq58 hf haq58 hsq58
          obtain rfl := Eq.symm hf
          clear haq57 hsq57 aq57 wq57
          refine seq_op haq58 hsq58 rfl (opT_store_blk (g := g5) (off := 0) (l := [.slice none 0 0, .slice none 0 0]) (d := [v9, v10]) (E := 45) (u := .agg #[v9, v10]) ti45 rfl rfl rfl rfl rfl (allC (Hd.one (Hd.of_rd r11)) (allC (Hd.one (Hd.of_rd r12)) allN)) (Nat.le_of_ble_eq_true rfl)) (perm_front (i := 0) rfl) rfl ?_
          rintro _ aq59 wq59 - haq59 (hsq59 : St I w0 wq59 [Ch.blk g5 [v9, v10] 45, F])
          clear haq58 hsq58 aq58 wq58
          refine wpList_nil ?_
          replace haq59 := haq59.pick' (L' := [(1, va1), (2, va2), (7, .int .i64 s3), (8, .pointer (some ⟨g5, 0, none⟩)), (15, va0), (16, .int .i64 (p0s1.length : Int)), (17, .int .i64 s3)]) ⟨rfl, rfl, rfl, rfl, rfl, rfl, rfl, trivial⟩
          refine nrm ?_
          refine wp_seq ?_
          refine wp_region_lit ?_
          refine seq_op0 haq59 hsq59 (opT_move (v := va1) rfl rfl) rfl rfl ?_
          rintro u aq60 wq60 hf haq60 hsq60
          obtain rfl := Eq.symm hf
          clear haq59 hsq59 aq59 wq59
          refine seq_op0 haq60 hsq60 (opT_move (v := .int .i64 s3) rfl rfl) rfl rfl ?_
          rintro u aq61 wq61 hf haq61 hsq61
          obtain rfl := Eq.symm hf
          clear haq60 hsq60 aq60 wq60
          obtain ⟨x6, e8, hm⟩ := bind_some hm
          refine seq_op0 haq61 hsq61 (opT_index_hd (xs := p1s2) (i := s3) (n := 2) (Hd.of_rd ra1) Try.underlying69 ti45 rfl rfl rfl (getI_in e8)) rfl rfl ?_
          rintro u aq62 wq62 hf haq62 hsq62
          obtain rfl := Eq.symm hf
          clear haq61 hsq61 aq61 wq61
          refine seq_op0 haq62 hsq62 (opT_load_el (S := rProd (rSlice 3 rInt) (rSlice 126 (rProd rInt (rProd rInt (rProd rInt rInt))))) (xs := p1s2) (a := x6) (i := s3) (k := 2) (off := 0) (f := fun (x : (List Int) × (List (Int × Int × Int × Int))) => x) ra1 e8 Fld.self ti45 rfl rfl rfl rfl rfl) rfl rfl ?_
          rintro u aq63 wq63 ⟨d, hd, hf⟩ haq63 hsq63
          obtain ⟨_, _, rfl, r130, r140⟩ := hd
          obtain ⟨v11, rfl⟩ := one_cell r130 rfl
          have r13 := r130; clear r130
          obtain ⟨v12, rfl⟩ := one_cell r140 rfl
          have r14 := r140; clear r140
          obtain rfl : u = .agg #[v11, v12] := hf
          clear haq62 hsq62 aq62 wq62
          refine seq_op haq63 hsq63 rfl (opT_alloc (l := [.slice none 0 0, .slice none 0 0]) tz45 rfl rfl) (List.Perm.refl _) rfl ?_
          rintro _ aq64 wq64 ⟨g6, rfl⟩ haq64 (hsq64 : St I w0 wq64 [Ch.blk g6 [.slice none 0 0, .slice none 0 0] 45, Ch.blk g5 [v9, v10] 45, F])
          clear haq63 hsq63 aq63 wq63
          refine seq_op haq64 hsq64 rfl (opT_store_blk (g := g6) (off := 0) (l := [.slice none 0 0, .slice none 0 0]) (d := [v11, v12]) (E := 45) (u := .agg #[v11, v12]) ti45 rfl rfl rfl rfl rfl (allC (Hd.one (Hd.of_rd r13)) (allC (Hd.one (Hd.of_rd r14)) allN)) (Nat.le_of_ble_eq_true rfl)) (perm_front (i := 0) rfl) rfl ?_
          rintro _ aq65 wq65 - haq65 (hsq65 : St I w0 wq65 [Ch.blk g6 [v11, v12] 45, Ch.blk g5 [v9, v10] 45, F])
          clear haq64 hsq64 aq64 wq64
          refine wpList_nil ?_
          replace haq65 := haq65.pick' (L' := [(1, va1), (2, va2), (8, .pointer (some ⟨g5, 0, none⟩)), (9, .pointer (some ⟨g6, 0, none⟩)), (15, va0), (16, .int .i64 (p0s1.length : Int)), (17, .int .i64 s3)]) ⟨rfl, rfl, rfl, rfl, rfl, rfl, rfl, trivial⟩
          refine nrm ?_
          refine wp_seq ?_
          refine wp_region_lit ?_
          refine seq_op0 haq65 hsq65 (opT_move (v := va2) rfl rfl) rfl rfl ?_
          rintro u aq66 wq66 hf haq66 hsq66
          obtain rfl := Eq.symm hf
          clear haq65 hsq65 aq65 wq65
          refine seq_op haq66 hsq66 rfl (opT_load_blk (g := g5) (off := 0) (E := 45) (l := [v9, v10]) (d := [v9, v10]) (u := .agg #[v9, v10]) ti45 rfl rfl rfl rfl rfl rfl) (perm_front (i := 1) rfl) rfl ?_
          rintro u aq67 wq67 hf haq67 (hsq67 : St I w0 wq67 [Ch.blk g5 [v9, v10] 45, Ch.blk g6 [v11, v12] 45, F])
          obtain rfl := Eq.symm hf
          clear haq66 hsq66 aq66 wq66
          refine seq_op haq67 hsq67 rfl (opT_load_blk (g := g6) (off := 0) (E := 45) (l := [v11, v12]) (d := [v11, v12]) (u := .agg #[v11, v12]) ti45 rfl rfl rfl rfl rfl rfl) (perm_front (i := 1) rfl) rfl ?_
          rintro u aq68 wq68 hf haq68 (hsq68 : St I w0 wq68 [Ch.blk g6 [v11, v12] 45, Ch.blk g5 [v9, v10] 45, F])
          obtain rfl := Eq.symm hf
          clear haq67 hsq67 aq67 wq67
          obtain ⟨r15, e9, hm⟩ := bind_some hm
          refine seq_op0 haq68 hsq68 (opT_call_clo (v := va2) (args := [.agg #[v9, v10], .agg #[v11, v12]]) (ra2.2 _ Hp.le.rfl (x5.1, x5.2) (x6.1, x6.2) _ e9 v9 v10 v11 v12 r11 r12 r13 r14) rfl rfl rfl) rfl rfl ?_
          rintro u aq69 wq69 hf haq69 hsq69
          obtain rfl := Eq.symm hf
          clear haq68 hsq68 aq68 wq68
          refine seq_op0 haq69 hsq69 (opT_not (b := r15) rfl rfl) rfl rfl ?_
          rintro u aq70 wq70 hf haq70 hsq70
          obtain rfl := Eq.symm hf
          clear haq69 hsq69 aq69 wq69
          refine wpList_nil ?_
          replace haq70 := haq70.pick' (L' := [(1, va1), (2, va2), (15, va0), (16, .int .i64 (p0s1.length : Int)), (17, .int .i64 s3), (30, .bool (!r15))]) ⟨rfl, rfl, rfl, rfl, rfl, rfl, trivial⟩
          refine nrm ?_
          rcases two (r15) with hb7 | hb7
          · replace hm := ifFe hb7 hm
            refine cnd_true (b := !r15) haq70 rfl rfl (notT hb7) ?_
            refine wp_seq ?_
            refine wp_region_lit ?_
            refine seq_op0 haq70 hsq70 (opT_assign (v := .bool false) rfl rfl) rfl rfl ?_
            rintro u aq71 wq71 hf haq71 hsq71
            obtain rfl := Eq.symm hf
            clear haq70 hsq70 aq70 wq70
            refine wpList_nil ?_
            replace haq71 := haq71.pick' (L' := [(6, .bool false)]) ⟨rfl, trivial⟩
            refine nrm ?_
            refine wp_ret ?_
            refine blkR ?_
            refine thenR ?_
            refine thenR ?_
            refine blkR ?_
            refine thenR ?_
            refine thenR ?_
            replace hm := loopRet hm hf1 hc1
            obtain rfl := Option.some.inj hm
            exact ret_1 haq71 rfl (res_tmp haq71 rfl) ⟨_, rfl, rfl, _, Hp.le.rfl, St.sel (hsq71) 3 [2] rfl rfl⟩
          · replace hm := ifTe hb7 hm
            refine cnd_false (b := !r15) haq70 rfl rfl (notF hb7) ?_
            refine wp_skip ?_
            refine nrmB ?_
            refine nrm ?_
            refine wp_region_lit ?_
            refine seq_op0 haq70 hsq70 (opT_add (m := s3) (n := 1) rfl rfl rfl) rfl rfl ?_
            rintro u aq72 wq72 hf haq72 hsq72
            obtain rfl := Eq.symm hf
            clear haq70 hsq70 aq70 wq70
            refine seq_op0 haq72 hsq72 (opT_move (v := .int .i64 (IntKind.i64.wrap (s3 + 1))) rfl rfl) rfl rfl ?_
            rintro u aq73 wq73 hf haq73 hsq73
            obtain rfl := Eq.symm hf
            clear haq72 hsq72 aq72 wq72
            refine wpList_nil ?_
            replace haq73 := haq73.pick' (L' := [(1, va1), (2, va2), (15, va0), (16, .int .i64 (p0s1.length : Int)), (17, .int .i64 (IntKind.i64.wrap (s3 + 1)))]) ⟨rfl, rfl, rfl, rfl, rfl, trivial⟩
            refine nrm ?_
            exact ⟨_, (Option.some.inj hm).symm, ⟨haq73.pick' ⟨rfl, rfl, rfl, rfl, rfl, trivial⟩, St.sel hsq73 3 [2] rfl rfl⟩⟩
    · rintro aq74 wq74 ⟨s4, ho1, haq74, hsq74⟩
      replace hm := loopOut ho1 hc1
      clear ho1 hc1 hl1
      refine nrm ?_
      refine wp_seq ?_
      refine wp_region_lit ?_
      refine seq_op0 haq74 hsq74 (opT_assign (v := .bool true) rfl rfl) rfl rfl ?_
      rintro u aq75 wq75 hf haq75 hsq75
      obtain rfl := Eq.symm hf
      clear haq74 hsq74 aq74 wq74
      refine wpList_nil ?_
      replace haq75 := haq75.pick' (L' := [(6, .bool true)]) ⟨rfl, trivial⟩
      refine nrm ?_
      refine wp_ret ?_
      obtain rfl := Option.some.inj hm
      exact ret_1 haq75 rfl (res_tmp haq75 rfl) ⟨_, rfl, rfl, _, Hp.le.rfl, St.sel (hsq75) 1 [0] rfl rfl⟩
  · replace hm := ifTe hb1 hm
    refine cnd_true (b := (p0s1.length : Int) != (p1s2.length : Int)) haq6 rfl rfl hb1 ?_
    refine wp_seq ?_
    refine wp_region_lit ?_
    refine seq_op0 haq6 hsq6 (opT_assign (v := .bool false) rfl rfl) rfl rfl ?_
    rintro u aq76 wq76 hf haq76 hsq76
    obtain rfl := Eq.symm hf
    clear haq6 hsq6 aq6 wq6
    refine wpList_nil ?_
    replace haq76 := haq76.pick' (L' := [(6, .bool false)]) ⟨rfl, trivial⟩
    refine nrm ?_
    refine wp_ret ?_
    refine thenR ?_
    obtain rfl := Option.some.inj hm
    exact ret_1 haq76 rfl (res_tmp haq76 rfl) ⟨_, rfl, rfl, _, Hp.le.rfl, St.sel (hsq76) 1 [0] rfl rfl⟩
set_option maxHeartbeats 8000000 in
theorem c_g_slices_Equal_S_int_int (p0s1 : List Int) (p1s2 : List Int) (r : Bool) (hm : m_g_slices_Equal_S_int_int p0s1 p1s2 = some r) {I : Hp} {w0 : World} (va0 : Value) (va1 : Value) (ra0 : (rSlice 3 rInt).rd I [va0] p0s1) (ra1 : (rSlice 3 rInt).rd I [va1] p1s2) : Con Try.prog 109 #[va0, va1] I w0 [] (fun v => v = .bool r) (fun v => []) := by
  refine con_of_wp (n := 26) [(0, va0), (1, va1)] Try.func109 rfl rfl (Nat.le_of_ble_eq_true rfl) (args_all ⟨rfl, rfl, trivial⟩) (fun F w a ha hs => ?_) (fun v => trivial)
  unfold m_g_slices_Equal_S_int_int at hm
  refine wp_seq ?_
  refine wp_region_lit ?_
  refine seq_op0 ha hs (opT_assign (v := .bool false) rfl rfl) rfl rfl ?_
  rintro u aq1 wq1 hf haq1 hsq1
  obtain rfl := Eq.symm hf
  clear ha hs a w
  refine wpList_nil ?_
  replace haq1 := haq1.pick' (L' := [(0, va0), (1, va1)]) ⟨rfl, rfl, trivial⟩
  refine nrm ?_
  refine wp_seq ?_
  refine wp_seq ?_
  refine wp_region_lit ?_
  refine seq_op0 haq1 hsq1 (opT_move (v := va0) rfl rfl) rfl rfl ?_
  rintro u aq2 wq2 hf haq2 hsq2
  obtain rfl := Eq.symm hf
  clear haq1 hsq1 aq1 wq1
  refine seq_op0 haq2 hsq2 (opT_len_hd (v := va0) (n := p0s1.length) (Hd.of_rd ra0) Try.underlying34 rfl rfl) rfl rfl ?_
  rintro u aq3 wq3 hf haq3 hsq3
  obtain rfl := Eq.symm hf
  clear haq2 hsq2 aq2 wq2
  refine seq_op0 haq3 hsq3 (opT_move (v := va1) rfl rfl) rfl rfl ?_
  rintro u aq4 wq4 hf haq4 hsq4
  obtain rfl := Eq.symm hf
  clear haq3 hsq3 aq3 wq3
  refine seq_op0 haq4 hsq4 (opT_len_hd (v := va1) (n := p1s2.length) (Hd.of_rd ra1) Try.underlying34 rfl rfl) rfl rfl ?_
  rintro u aq5 wq5 hf haq5 hsq5
  obtain rfl := Eq.symm hf
  clear haq4 hsq4 aq4 wq4
  refine seq_op0 haq5 hsq5 (opT_cmp (k := .i64) (m := (p0s1.length : Int)) (n := (p1s2.length : Int)) (c := (p0s1.length : Int) != (p1s2.length : Int)) rfl rfl rfl rfl rfl) rfl rfl ?_
  rintro u aq6 wq6 hf haq6 hsq6
  obtain rfl := Eq.symm hf
  clear haq5 hsq5 aq5 wq5
  refine wpList_nil ?_
  replace haq6 := haq6.pick' (L' := [(0, va0), (1, va1), (10, .bool ((p0s1.length : Int) != (p1s2.length : Int)))]) ⟨rfl, rfl, rfl, trivial⟩
  refine nrm ?_
  rcases two ((p0s1.length : Int) != (p1s2.length : Int)) with hb1 | hb1
  · replace hm := ifFe hb1 hm
    refine cnd_false (b := (p0s1.length : Int) != (p1s2.length : Int)) haq6 rfl rfl hb1 ?_
    refine wp_skip ?_
    refine nrm ?_
    refine wp_seq ?_
    refine wp_seq ?_
    refine wp_region_lit ?_
    refine seq_op0 haq6 hsq6 (opT_move (v := va0) rfl rfl) rfl rfl ?_
    rintro u aq7 wq7 hf haq7 hsq7
    obtain rfl := Eq.symm hf
    clear haq6 hsq6 aq6 wq6
    refine seq_op0 haq7 hsq7 (opT_len_hd (v := va0) (n := p0s1.length) (Hd.of_rd ra0) Try.underlying34 rfl rfl) rfl rfl ?_
    rintro u aq8 wq8 hf haq8 hsq8
    obtain rfl := Eq.symm hf
    clear haq7 hsq7 aq7 wq7
    refine seq_op0 haq8 hsq8 (opT_move (v := .int .i64 0) rfl rfl) rfl rfl ?_
    rintro u aq9 wq9 hf haq9 hsq9
    obtain rfl := Eq.symm hf
    clear haq8 hsq8 aq8 wq8
    refine wpList_nil ?_
    replace haq9 := haq9.pick' (L' := [(0, va0), (1, va1), (12, .int .i64 (p0s1.length : Int)), (13, .int .i64 0)]) ⟨rfl, rfl, rfl, rfl, trivial⟩
    refine nrm ?_
    obtain ⟨o1, hl1, hc1⟩ := bindL_some hm
    refine wp_cut (fun a w => ∃ s4 : Int, o1 = .brk s4 ∧ Agr 26 a [] ∧ St I w0 w [F]) ?_ ?_
    · refine wp_block (wp_loopM (R := Bool) (S := Int) (fun s3 a w => Agr 26 a [(0, va0), (1, va1), (12, .int .i64 (p0s1.length : Int)), (13, .int .i64 s3)] ∧ St I w0 w [F]) hl1 ?_ ?_)
      · exact ⟨haq9.pick' ⟨rfl, rfl, rfl, rfl, trivial⟩, St.sel hsq9 1 [0] rfl rfl⟩
      · rintro s3 o2 hm hf1 aq22 wq22 ⟨haq22, hsq22⟩
        unfold m_g_slices_Equal_S_int_int_l0 at hm
        refine wp_seq ?_
        refine wp_region_lit ?_
        refine seq_op0 haq22 hsq22 (opT_cmp (k := .i64) (m := s3) (n := (p0s1.length : Int)) (c := decide (s3 < (p0s1.length : Int))) rfl rfl rfl rfl rfl) rfl rfl ?_
        rintro u aq23 wq23 hf haq23 hsq23
        obtain rfl := Eq.symm hf
        clear haq22 hsq22 aq22 wq22
        refine wpList_nil ?_
        replace haq23 := haq23.pick' (L' := [(0, va0), (1, va1), (12, .int .i64 (p0s1.length : Int)), (13, .int .i64 s3), (14, .bool (decide (s3 < (p0s1.length : Int))))]) ⟨rfl, rfl, rfl, rfl, rfl, trivial⟩
        refine nrm ?_
        refine wp_seq ?_
        rcases two (decide (s3 < (p0s1.length : Int))) with hb6 | hb6
        · replace hm := ifFe hb6 hm
          refine cnd_false (b := decide (s3 < (p0s1.length : Int))) haq23 rfl rfl hb6 ?_
          refine wp_exit ?_
          refine thenX ?_
          refine thenX ?_
          refine ex_in ?_
          refine nrm ?_
          exact ⟨_, loopBrk hm hf1, ⟨haq23.pick' trivial, St.sel hsq23 1 [0] rfl rfl⟩⟩
        · replace hm := ifTe hb6 hm
          refine cnd_true (b := decide (s3 < (p0s1.length : Int))) haq23 rfl rfl hb6 ?_
          refine wp_skip ?_
          refine nrm ?_
          refine wp_seq ?_
          refine wp_block ?_
          refine wp_seq ?_
          refine wp_region_lit ?_
          refine seq_op0 haq23 hsq23 (opT_move (v := .int .i64 s3) rfl rfl) rfl rfl ?_
          rintro u aq24 wq24 hf haq24 hsq24
          obtain rfl := Eq.symm hf
          clear haq23 hsq23 aq23 wq23
          refine seq_op0 haq24 hsq24 (opT_assign (v := .int .i64 s3) rfl rfl) rfl rfl ?_
          rintro u aq25 wq25 hf haq25 hsq25
          obtain rfl := Eq.symm hf
          clear haq24 hsq24 aq24 wq24
          refine wpList_nil ?_
          replace haq25 := haq25.pick' (L' := [(0, va0), (1, va1), (5, .int .i64 s3), (12, .int .i64 (p0s1.length : Int)), (13, .int .i64 s3)]) ⟨rfl, rfl, rfl, rfl, rfl, trivial⟩
          refine nrm ?_
          refine wp_seq ?_
          obtain ⟨x5, e5, hm⟩ := bind_some hm
          obtain ⟨x6, e6, hm⟩ := bind_some hm
          refine wp_draw (L := [(0, va0), (1, va1), (5, .int .i64 s3), (12, .int .i64 (p0s1.length : Int)), (13, .int .i64 s3)]) (C := [F]) { ops := [⟨[], [], [], [0], fun | [xo0] => xo0 = va0 | _ => True, [(0, none)]⟩, ⟨[], [], [], [1], fun | [xo1] => xo1 = .int .i64 s3 | _ => True, [(5, none)]⟩, ⟨[], [], [], [2], fun | [xo2] => xo2 = pt va0 (s3.toNat * 1) | _ => True, [(16, some 0), (17, some 1)]⟩, ⟨[], [], [], [3], fun | [xo3] => xo3 = .int .i64 x5 | _ => True, [(18, some 2)]⟩, ⟨[], [], [], [4], fun | [xo4] => xo4 = va1 | _ => True, [(1, none)]⟩, ⟨[], [], [], [5], fun | [xo5] => xo5 = .int .i64 s3 | _ => True, [(5, none)]⟩, ⟨[], [], [], [6], fun | [xo6] => xo6 = pt va1 (s3.toNat * 1) | _ => True, [(20, some 4), (21, some 5)]⟩, ⟨[], [], [], [7], fun | [xo7] => xo7 = .int .i64 x6 | _ => True, [(22, some 6)]⟩, ⟨[], [], [], [8], fun | [xo8] => xo8 = .bool (x5 != x6) | _ => True, [(19, some 3), (23, some 7)]⟩], res := [], base := [], pre := [[], [], [0, 1], [0, 1, 2], [], [], [4, 5], [4, 5, 6], [0, 1, 2, 3, 4, 5, 6, 7]], fin := [(0, none), (1, none), (12, none), (13, none), (24, some 8)], left := [] } (by kernel_rfl) haq25 hsq25 (perm_sel [0] (m := 1) rfl rfl) (by kernel_rfl) (by kernel_rfl) ?_ ?_
          · exact ⟨Plan.goal_run fun vs hf => ⟨wants_none rfl, OpT.conv (OpT.evs (ev' := evL [(0, va0)]) (opT_move (v := va0) rfl rfl) rfl [.tmp 0] rfl ⟨rfl, trivial⟩) rfl (fun _ h => Eq.trans h rfl) (fun _ => rfl)⟩, Plan.goal_run fun vs hf => ⟨wants_none rfl, OpT.conv (OpT.evs (ev' := evL [(5, .int .i64 s3)]) (opT_move (v := .int .i64 s3) rfl rfl) rfl [.tmp 5] rfl ⟨rfl, trivial⟩) rfl (fun _ h => Eq.trans h rfl) (fun _ => rfl)⟩, Plan.goal_run fun vs hf => ⟨wants_none rfl, OpT.conv (OpT.evs (ev' := evL [(16, va0), (17, .int .i64 s3)]) (opT_index_hd (xs := p0s1) (i := s3) (n := 1) (Hd.of_rd ra0) Try.underlying34 ti3 rfl rfl rfl (getI_in e5)) rfl [.tmp 16, .tmp 17] rfl ⟨(hf 0 (mb rfl)), (hf 1 (mb rfl)), trivial⟩) rfl (fun _ h => Eq.trans h rfl) (fun _ => rfl)⟩, Plan.goal_run fun vs hf => ⟨wants_none rfl, OpT.conv (OpT.evs (ev' := evL [(18, pt va0 (s3.toNat * 1))]) (opT_load_el (S := rInt) (xs := p0s1) (a := x5) (i := s3) (k := 1) (off := 0) (f := fun (x : Int) => x) ra0 e5 Fld.self ti3 rfl rfl rfl rfl rfl) rfl [.tmp 18] rfl ⟨(hf 2 (mb rfl)), trivial⟩) rfl (fun _ h => lds_one h) (fun _ => rfl)⟩, Plan.goal_run fun vs hf => ⟨wants_none rfl, OpT.conv (OpT.evs (ev' := evL [(1, va1)]) (opT_move (v := va1) rfl rfl) rfl [.tmp 1] rfl ⟨rfl, trivial⟩) rfl (fun _ h => Eq.trans h rfl) (fun _ => rfl)⟩, Plan.goal_run fun vs hf => ⟨wants_none rfl, OpT.conv (OpT.evs (ev' := evL [(5, .int .i64 s3)]) (opT_move (v := .int .i64 s3) rfl rfl) rfl [.tmp 5] rfl ⟨rfl, trivial⟩) rfl (fun _ h => Eq.trans h rfl) (fun _ => rfl)⟩, Plan.goal_run fun vs hf => ⟨wants_none rfl, OpT.conv (OpT.evs (ev' := evL [(20, va1), (21, .int .i64 s3)]) (opT_index_hd (xs := p1s2) (i := s3) (n := 1) (Hd.of_rd ra1) Try.underlying34 ti3 rfl rfl rfl (getI_in e6)) rfl [.tmp 20, .tmp 21] rfl ⟨(hf 4 (mb rfl)), (hf 5 (mb rfl)), trivial⟩) rfl (fun _ h => Eq.trans h rfl) (fun _ => rfl)⟩, Plan.goal_run fun vs hf => ⟨wants_none rfl, OpT.conv (OpT.evs (ev' := evL [(22, pt va1 (s3.toNat * 1))]) (opT_load_el (S := rInt) (xs := p1s2) (a := x6) (i := s3) (k := 1) (off := 0) (f := fun (x : Int) => x) ra1 e6 Fld.self ti3 rfl rfl rfl rfl rfl) rfl [.tmp 22] rfl ⟨(hf 6 (mb rfl)), trivial⟩) rfl (fun _ h => lds_one h) (fun _ => rfl)⟩, Plan.goal_run fun vs hf => ⟨wants_none rfl, OpT.conv (OpT.evs (ev' := evL [(19, .int .i64 x5), (23, .int .i64 x6)]) (opT_cmp (k := .i64) (m := x5) (n := x6) (c := x5 != x6) rfl rfl rfl rfl rfl) rfl [.tmp 19, .tmp 23] rfl ⟨(hf 3 (mb rfl)), (hf 7 (mb rfl)), trivial⟩) rfl (fun _ h => Eq.trans h rfl) (fun _ => rfl)⟩, trivial⟩
          intro vs aq26 wq26 hf haq26 hsq26
          clear haq25 hsq25
          replace haq26 := haq26.pick' (L' := [(0, va0), (1, va1), (12, .int .i64 (p0s1.length : Int)), (13, .int .i64 s3), (24, .bool (x5 != x6))]) ⟨rfl, rfl, rfl, rfl, (congrArg some (show _ = _ from (hf 8 (Nat.le_of_ble_eq_true rfl)))), trivial⟩
          replace hsq26 : St I w0 wq26 [F] := hsq26
          clear hf vs
          refine nrm ?_
          rcases two (x5 != x6) with hb7 | hb7
          · replace hm := ifFe hb7 hm
            refine cnd_false (b := x5 != x6) haq26 rfl rfl hb7 ?_
            refine wp_skip ?_
            refine nrmB ?_
            refine nrm ?_
            refine wp_region_lit ?_
            refine seq_op0 haq26 hsq26 (opT_add (m := s3) (n := 1) rfl rfl rfl) rfl rfl ?_
            rintro u aq27 wq27 hf haq27 hsq27
            obtain rfl := Eq.symm hf
            clear haq26 hsq26 aq26 wq26
            refine seq_op0 haq27 hsq27 (opT_move (v := .int .i64 (IntKind.i64.wrap (s3 + 1))) rfl rfl) rfl rfl ?_
            rintro u aq28 wq28 hf haq28 hsq28
            obtain rfl := Eq.symm hf
            clear haq27 hsq27 aq27 wq27
            refine wpList_nil ?_
            replace haq28 := haq28.pick' (L' := [(0, va0), (1, va1), (12, .int .i64 (p0s1.length : Int)), (13, .int .i64 (IntKind.i64.wrap (s3 + 1)))]) ⟨rfl, rfl, rfl, rfl, trivial⟩
            refine nrm ?_
            exact ⟨_, (Option.some.inj hm).symm, ⟨haq28.pick' ⟨rfl, rfl, rfl, rfl, trivial⟩, St.sel hsq28 1 [0] rfl rfl⟩⟩
          · replace hm := ifTe hb7 hm
            refine cnd_true (b := x5 != x6) haq26 rfl rfl hb7 ?_
            refine wp_seq ?_
            refine wp_region_lit ?_
            refine seq_op0 haq26 hsq26 (opT_assign (v := .bool false) rfl rfl) rfl rfl ?_
            rintro u aq29 wq29 hf haq29 hsq29
            obtain rfl := Eq.symm hf
            clear haq26 hsq26 aq26 wq26
            refine wpList_nil ?_
            replace haq29 := haq29.pick' (L' := [(4, .bool false)]) ⟨rfl, trivial⟩
            refine nrm ?_
            refine wp_ret ?_
            refine blkR ?_
            refine thenR ?_
            refine thenR ?_
            refine blkR ?_
            refine thenR ?_
            refine thenR ?_
            replace hm := loopRet hm hf1 hc1
            obtain rfl := Option.some.inj hm
            exact ret_1 haq29 rfl (res_tmp haq29 rfl) ⟨_, rfl, rfl, _, Hp.le.rfl, St.sel (hsq29) 1 [0] rfl rfl⟩
    · rintro aq30 wq30 ⟨s4, ho1, haq30, hsq30⟩
      replace hm := loopOut ho1 hc1
      clear ho1 hc1 hl1
      refine nrm ?_
      refine wp_seq ?_
      refine wp_region_lit ?_
      refine seq_op0 haq30 hsq30 (opT_assign (v := .bool true) rfl rfl) rfl rfl ?_
      rintro u aq31 wq31 hf haq31 hsq31
      obtain rfl := Eq.symm hf
      clear haq30 hsq30 aq30 wq30
      refine wpList_nil ?_
      replace haq31 := haq31.pick' (L' := [(4, .bool true)]) ⟨rfl, trivial⟩
      refine nrm ?_
      refine wp_ret ?_
      obtain rfl := Option.some.inj hm
      exact ret_1 haq31 rfl (res_tmp haq31 rfl) ⟨_, rfl, rfl, _, Hp.le.rfl, St.sel (hsq31) 1 [0] rfl rfl⟩
  · replace hm := ifTe hb1 hm
    refine cnd_true (b := (p0s1.length : Int) != (p1s2.length : Int)) haq6 rfl rfl hb1 ?_
    refine wp_seq ?_
    refine wp_region_lit ?_
    refine seq_op0 haq6 hsq6 (opT_assign (v := .bool false) rfl rfl) rfl rfl ?_
    rintro u aq32 wq32 hf haq32 hsq32
    obtain rfl := Eq.symm hf
    clear haq6 hsq6 aq6 wq6
    refine wpList_nil ?_
    replace haq32 := haq32.pick' (L' := [(4, .bool false)]) ⟨rfl, trivial⟩
    refine nrm ?_
    refine wp_ret ?_
    refine thenR ?_
    obtain rfl := Option.some.inj hm
    exact ret_1 haq32 rfl (res_tmp haq32 rfl) ⟨_, rfl, rfl, _, Hp.le.rfl, St.sel (hsq32) 1 [0] rfl rfl⟩
set_option maxHeartbeats 8000000 in
theorem c_g_slices_EqualFunc_S_S_int_S_S_int_S_int_S_int (p0s1 : List (List Int)) (p1s2 : List (List Int)) (p2eq : (List Int) → (List Int) → Option Bool) (r : Bool) (hm : m_g_slices_EqualFunc_S_S_int_S_S_int_S_int_S_int p0s1 p1s2 p2eq = some r) {I : Hp} {w0 : World} (va0 : Value) (va1 : Value) (va2 : Value) (ra0 : (rSlice 34 (rSlice 3 rInt)).rd I [va0] p0s1) (ra1 : (rSlice 34 (rSlice 3 rInt)).rd I [va1] p1s2) (ra2 : fn96 w0 I va2 p2eq) : Con Try.prog 107 #[va0, va1, va2] I w0 [] (fun v => v = .bool r) (fun v => []) := by
  refine con_of_wp (n := 32) [(0, va0), (1, va1), (2, va2)] Try.func107 rfl rfl (Nat.le_of_ble_eq_true rfl) (args_all ⟨rfl, rfl, rfl, trivial⟩) (fun F w a ha hs => ?_) (fun v => trivial)
  unfold m_g_slices_EqualFunc_S_S_int_S_S_int_S_int_S_int at hm
  refine wp_seq ?_
  refine wp_region_lit ?_
  refine seq_op0 ha hs (opT_assign (v := .bool false) rfl rfl) rfl rfl ?_
  rintro u aq1 wq1 hf haq1 hsq1
  obtain rfl := Eq.symm hf
  clear ha hs a w
  refine wpList_nil ?_
  replace haq1 := haq1.pick' (L' := [(0, va0), (1, va1), (2, va2)]) ⟨rfl, rfl, rfl, trivial⟩
  refine nrm ?_
  refine wp_seq ?_
  refine wp_seq ?_
  refine wp_region_lit ?_
  refine seq_op0 haq1 hsq1 (opT_move (v := va0) rfl rfl) rfl rfl ?_
  rintro u aq2 wq2 hf haq2 hsq2
  obtain rfl := Eq.symm hf
  clear haq1 hsq1 aq1 wq1
  refine seq_op0 haq2 hsq2 (opT_len_hd (v := va0) (n := p0s1.length) (Hd.of_rd ra0) Try.underlying23 rfl rfl) rfl rfl ?_
  rintro u aq3 wq3 hf haq3 hsq3
  obtain rfl := Eq.symm hf
  clear haq2 hsq2 aq2 wq2
  refine seq_op0 haq3 hsq3 (opT_move (v := va1) rfl rfl) rfl rfl ?_
  rintro u aq4 wq4 hf haq4 hsq4
  obtain rfl := Eq.symm hf
  clear haq3 hsq3 aq3 wq3
  refine seq_op0 haq4 hsq4 (opT_len_hd (v := va1) (n := p1s2.length) (Hd.of_rd ra1) Try.underlying23 rfl rfl) rfl rfl ?_
  rintro u aq5 wq5 hf haq5 hsq5
  obtain rfl := Eq.symm hf
  clear haq4 hsq4 aq4 wq4
  refine seq_op0 haq5 hsq5 (opT_cmp (k := .i64) (m := (p0s1.length : Int)) (n := (p1s2.length : Int)) (c := (p0s1.length : Int) != (p1s2.length : Int)) rfl rfl rfl rfl rfl) rfl rfl ?_
  rintro u aq6 wq6 hf haq6 hsq6
  obtain rfl := Eq.symm hf
  clear haq5 hsq5 aq5 wq5
  refine wpList_nil ?_
  replace haq6 := haq6.pick' (L' := [(0, va0), (1, va1), (2, va2), (14, .bool ((p0s1.length : Int) != (p1s2.length : Int)))]) ⟨rfl, rfl, rfl, rfl, trivial⟩
  refine nrm ?_
  rcases two ((p0s1.length : Int) != (p1s2.length : Int)) with hb1 | hb1
  · replace hm := ifFe hb1 hm
    refine cnd_false (b := (p0s1.length : Int) != (p1s2.length : Int)) haq6 rfl rfl hb1 ?_
    refine wp_skip ?_
    refine nrm ?_
    refine wp_seq ?_
    refine wp_seq ?_
    refine wp_region_lit ?_
    refine seq_op0 haq6 hsq6 (opT_move (v := va0) rfl rfl) rfl rfl ?_
    rintro u aq7 wq7 hf haq7 hsq7
    obtain rfl := Eq.symm hf
    clear haq6 hsq6 aq6 wq6
    refine seq_op0 haq7 hsq7 (opT_len_hd (v := va0) (n := p0s1.length) (Hd.of_rd ra0) Try.underlying23 rfl rfl) rfl rfl ?_
    rintro u aq8 wq8 hf haq8 hsq8
    obtain rfl := Eq.symm hf
    clear haq7 hsq7 aq7 wq7
    refine seq_op0 haq8 hsq8 (opT_move (v := .int .i64 0) rfl rfl) rfl rfl ?_
    rintro u aq9 wq9 hf haq9 hsq9
    obtain rfl := Eq.symm hf
    clear haq8 hsq8 aq8 wq8
    refine wpList_nil ?_
    replace haq9 := haq9.pick' (L' := [(1, va1), (2, va2), (15, va0), (16, .int .i64 (p0s1.length : Int)), (17, .int .i64 0)]) ⟨rfl, rfl, rfl, rfl, rfl, trivial⟩
    refine nrm ?_
    obtain ⟨o1, hl1, hc1⟩ := bindL_some hm
    refine wp_cut (fun a w => ∃ s4 : Int, o1 = .brk s4 ∧ Agr 32 a [] ∧ St I w0 w [F]) ?_ ?_
    · refine wp_block (wp_loopM (R := Bool) (S := Int) (fun s3 a w => Agr 32 a [(1, va1), (2, va2), (15, va0), (16, .int .i64 (p0s1.length : Int)), (17, .int .i64 s3)] ∧ St I w0 w [F]) hl1 ?_ ?_)
      · exact ⟨haq9.pick' ⟨rfl, rfl, rfl, rfl, rfl, trivial⟩, St.sel hsq9 1 [0] rfl rfl⟩
      · rintro s3 o2 hm hf1 aq48 wq48 ⟨haq48, hsq48⟩
        unfold m_g_slices_EqualFunc_S_S_int_S_S_int_S_int_S_int_l0 at hm
        refine wp_seq ?_
        refine wp_region_lit ?_
        refine seq_op0 haq48 hsq48 (opT_cmp (k := .i64) (m := s3) (n := (p0s1.length : Int)) (c := decide (s3 < (p0s1.length : Int))) rfl rfl rfl rfl rfl) rfl rfl ?_
        rintro u aq49 wq49 hf haq49 hsq49
        obtain rfl := Eq.symm hf
        clear haq48 hsq48 aq48 wq48
        refine wpList_nil ?_
        replace haq49 := haq49.pick' (L' := [(1, va1), (2, va2), (15, va0), (16, .int .i64 (p0s1.length : Int)), (17, .int .i64 s3), (18, .bool (decide (s3 < (p0s1.length : Int))))]) ⟨rfl, rfl, rfl, rfl, rfl, rfl, trivial⟩
        refine nrm ?_
        refine wp_seq ?_
        rcases two (decide (s3 < (p0s1.length : Int))) with hb6 | hb6
        · replace hm := ifFe hb6 hm
          refine cnd_false (b := decide (s3 < (p0s1.length : Int))) haq49 rfl rfl hb6 ?_
          refine wp_exit ?_
          refine thenX ?_
          refine thenX ?_
          refine ex_in ?_
          refine nrm ?_
          exact ⟨_, loopBrk hm hf1, ⟨haq49.pick' trivial, St.sel hsq49 1 [0] rfl rfl⟩⟩
        · replace hm := ifTe hb6 hm
          refine cnd_true (b := decide (s3 < (p0s1.length : Int))) haq49 rfl rfl hb6 ?_
          refine wp_skip ?_
          refine nrm ?_
          refine wp_seq ?_
          refine wp_block ?_
          refine wp_seq ?_
          refine wp_region_lit ?_
          refine seq_op0 haq49 hsq49 (opT_move (v := .int .i64 s3) rfl rfl) rfl rfl ?_
          rintro u aq50 wq50 hf haq50 hsq50
          obtain rfl := Eq.symm hf
          clear haq49 hsq49 aq49 wq49
          obtain ⟨x5, e7, hm⟩ := bind_some hm
          refine seq_op0 haq50 hsq50 (opT_index_hd (xs := p0s1) (i := s3) (n := 1) (Hd.of_rd ra0) Try.underlying23 ti34 rfl rfl rfl (getI_in e7)) rfl rfl ?_
          rintro u aq51 wq51 hf haq51 hsq51
          obtain rfl := Eq.symm hf
          clear haq50 hsq50 aq50 wq50
          refine seq_op0 haq51 hsq51 (opT_load_el (S := rSlice 3 rInt) (xs := p0s1) (a := x5) (i := s3) (k := 1) (off := 0) (f := fun (x : List Int) => x) ra0 e7 Fld.self ti34 rfl rfl rfl rfl rfl) rfl rfl ?_
          rintro v5 aq52 wq52 hf haq52 hsq52
          have r7 := lds_sl hf
          clear hf
          clear haq51 hsq51 aq51 wq51
          refine seq_op0 haq52 hsq52 (opT_assign (v := .int .i64 s3) rfl rfl) rfl rfl ?_
          rintro u aq53 wq53 hf haq53 hsq53
          obtain rfl := Eq.symm hf
          clear haq52 hsq52 aq52 wq52
          refine seq_op0 haq53 hsq53 (opT_assign (v := v5) rfl rfl) rfl rfl ?_
          rintro u aq54 wq54 hf haq54 hsq54
          obtain rfl := Eq.symm hf
          clear haq53 hsq53 aq53 wq53
          refine wpList_nil ?_
          replace haq54 := haq54.pick' (L' := [(1, va1), (2, va2), (7, .int .i64 s3), (8, v5), (15, va0), (16, .int .i64 (p0s1.length : Int)), (17, .int .i64 s3)]) ⟨rfl, rfl, rfl, rfl, rfl, rfl, rfl, trivial⟩
          refine nrm ?_
          refine wp_seq ?_
          refine wp_region_lit ?_
          refine seq_op0 haq54 hsq54 (opT_move (v := va1) rfl rfl) rfl rfl ?_
          rintro u aq55 wq55 hf haq55 hsq55
          obtain rfl := Eq.symm hf
          clear haq54 hsq54 aq54 wq54
          refine seq_op0 haq55 hsq55 (opT_move (v := .int .i64 s3) rfl rfl) rfl rfl ?_
          rintro u aq56 wq56 hf haq56 hsq56
          obtain rfl := Eq.symm hf
          clear haq55 hsq55 aq55 wq55
          obtain ⟨x6, e8, hm⟩ := bind_some hm
          refine seq_op0 haq56 hsq56 (opT_index_hd (xs := p1s2) (i := s3) (n := 1) (Hd.of_rd ra1) Try.underlying23 ti34 rfl rfl rfl (getI_in e8)) rfl rfl ?_
          rintro u aq57 wq57 hf haq57 hsq57
          obtain rfl := Eq.symm hf
          clear haq56 hsq56 aq56 wq56
          refine seq_op0 haq57 hsq57 (opT_load_el (S := rSlice 3 rInt) (xs := p1s2) (a := x6) (i := s3) (k := 1) (off := 0) (f := fun (x : List Int) => x) ra1 e8 Fld.self ti34 rfl rfl rfl rfl rfl) rfl rfl ?_
          rintro v6 aq58 wq58 hf haq58 hsq58
          have r8 := lds_sl hf
          clear hf
          clear haq57 hsq57 aq57 wq57
          refine seq_op0 haq58 hsq58 (opT_assign (v := v6) rfl rfl) rfl rfl ?_
          rintro u aq59 wq59 hf haq59 hsq59
          obtain rfl := Eq.symm hf
          clear haq58 hsq58 aq58 wq58
          refine wpList_nil ?_
          replace haq59 := haq59.pick' (L' := [(1, va1), (2, va2), (8, v5), (9, v6), (15, va0), (16, .int .i64 (p0s1.length : Int)), (17, .int .i64 s3)]) ⟨rfl, rfl, rfl, rfl, rfl, rfl, rfl, trivial⟩
          refine nrm ?_
          refine wp_seq ?_
          refine wp_region_lit ?_
          refine seq_op0 haq59 hsq59 (opT_move (v := va2) rfl rfl) rfl rfl ?_
          rintro u aq60 wq60 hf haq60 hsq60
          obtain rfl := Eq.symm hf
          clear haq59 hsq59 aq59 wq59
          refine seq_op0 haq60 hsq60 (opT_move (v := v5) rfl rfl) rfl rfl ?_
          rintro u aq61 wq61 hf haq61 hsq61
          obtain rfl := Eq.symm hf
          clear haq60 hsq60 aq60 wq60
          refine seq_op0 haq61 hsq61 (opT_move (v := v6) rfl rfl) rfl rfl ?_
          rintro u aq62 wq62 hf haq62 hsq62
          obtain rfl := Eq.symm hf
          clear haq61 hsq61 aq61 wq61
          obtain ⟨r9, e9, hm⟩ := bind_some hm
          refine seq_op0 haq62 hsq62 (opT_call_clo (v := va2) (args := [v5, v6]) (ra2.2 _ Hp.le.rfl x5 x6 _ e9 v5 v6 r7 r8) rfl rfl rfl) rfl rfl ?_
          rintro u aq63 wq63 hf haq63 hsq63
          obtain rfl := Eq.symm hf
          clear haq62 hsq62 aq62 wq62
          refine seq_op0 haq63 hsq63 (opT_not (b := r9) rfl rfl) rfl rfl ?_
          rintro u aq64 wq64 hf haq64 hsq64
          obtain rfl := Eq.symm hf
          clear haq63 hsq63 aq63 wq63
          refine wpList_nil ?_
          replace haq64 := haq64.pick' (L' := [(1, va1), (2, va2), (15, va0), (16, .int .i64 (p0s1.length : Int)), (17, .int .i64 s3), (30, .bool (!r9))]) ⟨rfl, rfl, rfl, rfl, rfl, rfl, trivial⟩
          refine nrm ?_
          rcases two (r9) with hb7 | hb7
          · replace hm := ifFe hb7 hm
            refine cnd_true (b := !r9) haq64 rfl rfl (notT hb7) ?_
            refine wp_seq ?_
            refine wp_region_lit ?_
            refine seq_op0 haq64 hsq64 (opT_assign (v := .bool false) rfl rfl) rfl rfl ?_
            rintro u aq65 wq65 hf haq65 hsq65
            obtain rfl := Eq.symm hf
            clear haq64 hsq64 aq64 wq64
            refine wpList_nil ?_
            replace haq65 := haq65.pick' (L' := [(6, .bool false)]) ⟨rfl, trivial⟩
            refine nrm ?_
            refine wp_ret ?_
            refine blkR ?_
            refine thenR ?_
            refine thenR ?_
            refine blkR ?_
            refine thenR ?_
            refine thenR ?_
            replace hm := loopRet hm hf1 hc1
            obtain rfl := Option.some.inj hm
            exact ret_1 haq65 rfl (res_tmp haq65 rfl) ⟨_, rfl, rfl, _, Hp.le.rfl, St.sel (hsq65) 1 [0] rfl rfl⟩
          · replace hm := ifTe hb7 hm
            refine cnd_false (b := !r9) haq64 rfl rfl (notF hb7) ?_
            refine wp_skip ?_
            refine nrmB ?_
            refine nrm ?_
            refine wp_region_lit ?_
            refine seq_op0 haq64 hsq64 (opT_add (m := s3) (n := 1) rfl rfl rfl) rfl rfl ?_
            rintro u aq66 wq66 hf haq66 hsq66
            obtain rfl := Eq.symm hf
            clear haq64 hsq64 aq64 wq64
            refine seq_op0 haq66 hsq66 (opT_move (v := .int .i64 (IntKind.i64.wrap (s3 + 1))) rfl rfl) rfl rfl ?_
            rintro u aq67 wq67 hf haq67 hsq67
            obtain rfl := Eq.symm hf
            clear haq66 hsq66 aq66 wq66
            refine wpList_nil ?_
            replace haq67 := haq67.pick' (L' := [(1, va1), (2, va2), (15, va0), (16, .int .i64 (p0s1.length : Int)), (17, .int .i64 (IntKind.i64.wrap (s3 + 1)))]) ⟨rfl, rfl, rfl, rfl, rfl, trivial⟩
            refine nrm ?_
            exact ⟨_, (Option.some.inj hm).symm, ⟨haq67.pick' ⟨rfl, rfl, rfl, rfl, rfl, trivial⟩, St.sel hsq67 1 [0] rfl rfl⟩⟩
    · rintro aq68 wq68 ⟨s4, ho1, haq68, hsq68⟩
      replace hm := loopOut ho1 hc1
      clear ho1 hc1 hl1
      refine nrm ?_
      refine wp_seq ?_
      refine wp_region_lit ?_
      refine seq_op0 haq68 hsq68 (opT_assign (v := .bool true) rfl rfl) rfl rfl ?_
      rintro u aq69 wq69 hf haq69 hsq69
      obtain rfl := Eq.symm hf
      clear haq68 hsq68 aq68 wq68
      refine wpList_nil ?_
      replace haq69 := haq69.pick' (L' := [(6, .bool true)]) ⟨rfl, trivial⟩
      refine nrm ?_
      refine wp_ret ?_
      obtain rfl := Option.some.inj hm
      exact ret_1 haq69 rfl (res_tmp haq69 rfl) ⟨_, rfl, rfl, _, Hp.le.rfl, St.sel (hsq69) 1 [0] rfl rfl⟩
  · replace hm := ifTe hb1 hm
    refine cnd_true (b := (p0s1.length : Int) != (p1s2.length : Int)) haq6 rfl rfl hb1 ?_
    refine wp_seq ?_
    refine wp_region_lit ?_
    refine seq_op0 haq6 hsq6 (opT_assign (v := .bool false) rfl rfl) rfl rfl ?_
    rintro u aq70 wq70 hf haq70 hsq70
    obtain rfl := Eq.symm hf
    clear haq6 hsq6 aq6 wq6
    refine wpList_nil ?_
    replace haq70 := haq70.pick' (L' := [(6, .bool false)]) ⟨rfl, trivial⟩
    refine nrm ?_
    refine wp_ret ?_
    refine thenR ?_
    obtain rfl := Option.some.inj hm
    exact ret_1 haq70 rfl (res_tmp haq70 rfl) ⟨_, rfl, rfl, _, Hp.le.rfl, St.sel (hsq70) 1 [0] rfl rfl⟩
set_option maxHeartbeats 8000000 in
theorem c_w_toSubscriber (p0a : Int × Int × Int) (r : Int × Int × Int) (hm : m_w_toSubscriber p0a = some r) {I : Hp} {w0 : World} : Con Try.prog 136 #[.agg #[.int .i64 p0a.1, .int .i64 p0a.2.1, .int .i64 p0a.2.2]] I w0 [] (fun v => v = .agg #[.int .i64 r.1, .int .i64 r.2.1, .int .i64 r.2.2]) (fun v => []) := by
  refine con_of_wp (n := 14) [(0, .agg #[.int .i64 p0a.1, .int .i64 p0a.2.1, .int .i64 p0a.2.2])] Try.func136 rfl rfl (Nat.le_of_ble_eq_true rfl) (args_all ⟨rfl, trivial⟩) (fun F w a ha hs => ?_) (fun v => trivial)
  unfold m_w_toSubscriber at hm
  refine wp_seq ?_
  refine wp_region_lit ?_
  refine seq_op ha hs rfl (opT_box (u := .agg #[.int .i64 p0a.1, .int .i64 p0a.2.1, .int .i64 p0a.2.2]) (l := [.int .i64 p0a.1, .int .i64 p0a.2.1, .int .i64 p0a.2.2]) rfl rfl rfl) (List.Perm.refl _) rfl ?_
  rintro _ aq1 wq1 ⟨g1, rfl⟩ haq1 (hsq1 : St I w0 wq1 [Ch.blk g1 [.int .i64 p0a.1, .int .i64 p0a.2.1, .int .i64 p0a.2.2] 153, F])
  clear ha hs a w
  refine seq_op haq1 hsq1 rfl (opT_alloc (l := [.int .i64 0, .int .i64 0, .int .i64 0]) tz107 rfl rfl) (List.Perm.refl _) rfl ?_
  rintro _ aq2 wq2 ⟨g2, rfl⟩ haq2 (hsq2 : St I w0 wq2 [Ch.blk g2 [.int .i64 0, .int .i64 0, .int .i64 0] 107, Ch.blk g1 [.int .i64 p0a.1, .int .i64 p0a.2.1, .int .i64 p0a.2.2] 153, F])
  clear haq1 hsq1 aq1 wq1
  refine wpList_nil ?_
  replace haq2 := haq2.pick' (L' := [(1, .pointer (some ⟨g1, 0, none⟩)), (2, .pointer (some ⟨g2, 0, none⟩))]) ⟨rfl, rfl, trivial⟩
  refine nrm ?_
  refine wp_seq ?_
  refine wp_region_lit ?_
  refine seq_op haq2 hsq2 rfl (opT_alloc (l := [.int .i64 0, .int .i64 0, .int .i64 0]) tz107 rfl rfl) (List.Perm.refl _) rfl ?_
  rintro _ aq3 wq3 ⟨g3, rfl⟩ haq3 (hsq3 : St I w0 wq3 [Ch.blk g3 [.int .i64 0, .int .i64 0, .int .i64 0] 107, Ch.blk g2 [.int .i64 0, .int .i64 0, .int .i64 0] 107, Ch.blk g1 [.int .i64 p0a.1, .int .i64 p0a.2.1, .int .i64 p0a.2.2] 153, F])
  clear haq2 hsq2 aq2 wq2
  refine wpList_nil ?_
  replace haq3 := haq3.pick' (L' := [(1, .pointer (some ⟨g1, 0, none⟩)), (2, .pointer (some ⟨g2, 0, none⟩)), (3, .pointer (some ⟨g3, 0, none⟩))]) ⟨rfl, rfl, rfl, trivial⟩
  refine nrm ?_
  refine wp_seq ?_
  refine wp_region_lit ?_
  refine seq_op0 haq3 hsq3 (opT_field_addr (g := g1) (b := 0) tf153_0 rfl rfl) rfl rfl ?_
  rintro u aq4 wq4 hf haq4 hsq4
  obtain rfl := Eq.symm hf
  clear haq3 hsq3 aq3 wq3
  refine seq_op haq4 hsq4 rfl (opT_load_blk (g := g1) (off := 0) (E := 153) (l := [.int .i64 p0a.1, .int .i64 p0a.2.1, .int .i64 p0a.2.2]) (d := [.int .i64 p0a.1]) (u := .int .i64 p0a.1) ti3 rfl rfl rfl rfl rfl rfl) (perm_front (i := 2) rfl) rfl ?_
  rintro u aq5 wq5 hf haq5 (hsq5 : St I w0 wq5 [Ch.blk g1 [.int .i64 p0a.1, .int .i64 p0a.2.1, .int .i64 p0a.2.2] 153, Ch.blk g3 [.int .i64 0, .int .i64 0, .int .i64 0] 107, Ch.blk g2 [.int .i64 0, .int .i64 0, .int .i64 0] 107, F])
  obtain rfl := Eq.symm hf
  clear haq4 hsq4 aq4 wq4
  refine seq_op0 haq5 hsq5 (opT_field_addr (g := g3) (b := 0) tf107_0 rfl rfl) rfl rfl ?_
  rintro u aq6 wq6 hf haq6 hsq6
  obtain rfl := Eq.symm hf
  clear haq5 hsq5 aq5 wq5
  refine seq_op haq6 hsq6 rfl (opT_store_blk (g := g3) (off := 0) (l := [.int .i64 0, .int .i64 0, .int .i64 0]) (d := [.int .i64 p0a.1]) (E := 107) (u := .int .i64 p0a.1) ti3 rfl rfl rfl rfl rfl (allC rfl allN) (Nat.le_of_ble_eq_true rfl)) (perm_front (i := 1) rfl) rfl ?_
  rintro _ aq7 wq7 - haq7 (hsq7 : St I w0 wq7 [Ch.blk g3 [.int .i64 p0a.1, .int .i64 0, .int .i64 0] 107, Ch.blk g1 [.int .i64 p0a.1, .int .i64 p0a.2.1, .int .i64 p0a.2.2] 153, Ch.blk g2 [.int .i64 0, .int .i64 0, .int .i64 0] 107, F])
  clear haq6 hsq6 aq6 wq6
  refine wpList_nil ?_
  replace haq7 := haq7.pick' (L' := [(1, .pointer (some ⟨g1, 0, none⟩)), (2, .pointer (some ⟨g2, 0, none⟩)), (3, .pointer (some ⟨g3, 0, none⟩))]) ⟨rfl, rfl, rfl, trivial⟩
  refine nrm ?_
  refine wp_seq ?_
  refine wp_region_lit ?_
  refine seq_op0 haq7 hsq7 (opT_field_addr (g := g1) (b := 0) tf153_1 rfl rfl) rfl rfl ?_
  rintro u aq8 wq8 hf haq8 hsq8
  obtain rfl := Eq.symm hf
  clear haq7 hsq7 aq7 wq7
  refine seq_op haq8 hsq8 rfl (opT_load_blk (g := g1) (off := 1) (E := 153) (l := [.int .i64 p0a.1, .int .i64 p0a.2.1, .int .i64 p0a.2.2]) (d := [.int .i64 p0a.2.1]) (u := .int .i64 p0a.2.1) ti3 rfl rfl rfl rfl rfl rfl) (perm_front (i := 1) rfl) rfl ?_
  rintro u aq9 wq9 hf haq9 (hsq9 : St I w0 wq9 [Ch.blk g1 [.int .i64 p0a.1, .int .i64 p0a.2.1, .int .i64 p0a.2.2] 153, Ch.blk g3 [.int .i64 p0a.1, .int .i64 0, .int .i64 0] 107, Ch.blk g2 [.int .i64 0, .int .i64 0, .int .i64 0] 107, F])
  obtain rfl := Eq.symm hf
  clear haq8 hsq8 aq8 wq8
  refine seq_op0 haq9 hsq9 (opT_field_addr (g := g3) (b := 0) tf107_1 rfl rfl) rfl rfl ?_
  rintro u aq10 wq10 hf haq10 hsq10
  obtain rfl := Eq.symm hf
  clear haq9 hsq9 aq9 wq9
  refine seq_op haq10 hsq10 rfl (opT_store_blk (g := g3) (off := 1) (l := [.int .i64 p0a.1, .int .i64 0, .int .i64 0]) (d := [.int .i64 p0a.2.1]) (E := 107) (u := .int .i64 p0a.2.1) ti3 rfl rfl rfl rfl rfl (allC rfl allN) (Nat.le_of_ble_eq_true rfl)) (perm_front (i := 1) rfl) rfl ?_
  rintro _ aq11 wq11 - haq11 (hsq11 : St I w0 wq11 [Ch.blk g3 [.int .i64 p0a.1, .int .i64 p0a.2.1, .int .i64 0] 107, Ch.blk g1 [.int .i64 p0a.1, .int .i64 p0a.2.1, .int .i64 p0a.2.2] 153, Ch.blk g2 [.int .i64 0, .int .i64 0, .int .i64 0] 107, F])
  clear haq10 hsq10 aq10 wq10
  refine wpList_nil ?_
  replace haq11 := haq11.pick' (L' := [(1, .pointer (some ⟨g1, 0, none⟩)), (2, .pointer (some ⟨g2, 0, none⟩)), (3, .pointer (some ⟨g3, 0, none⟩))]) ⟨rfl, rfl, rfl, trivial⟩
  refine nrm ?_
  refine wp_seq ?_
  refine wp_region_lit ?_
  refine seq_op0 haq11 hsq11 (opT_field_addr (g := g1) (b := 0) tf153_2 rfl rfl) rfl rfl ?_
  rintro u aq12 wq12 hf haq12 hsq12
  obtain rfl := Eq.symm hf
  clear haq11 hsq11 aq11 wq11
  refine seq_op haq12 hsq12 rfl (opT_load_blk (g := g1) (off := 2) (E := 153) (l := [.int .i64 p0a.1, .int .i64 p0a.2.1, .int .i64 p0a.2.2]) (d := [.int .i64 p0a.2.2]) (u := .int .i64 p0a.2.2) ti3 rfl rfl rfl rfl rfl rfl) (perm_front (i := 1) rfl) rfl ?_
  rintro u aq13 wq13 hf haq13 (hsq13 : St I w0 wq13 [Ch.blk g1 [.int .i64 p0a.1, .int .i64 p0a.2.1, .int .i64 p0a.2.2] 153, Ch.blk g3 [.int .i64 p0a.1, .int .i64 p0a.2.1, .int .i64 0] 107, Ch.blk g2 [.int .i64 0, .int .i64 0, .int .i64 0] 107, F])
  obtain rfl := Eq.symm hf
  clear haq12 hsq12 aq12 wq12
  refine seq_op0 haq13 hsq13 (opT_field_addr (g := g3) (b := 0) tf107_2 rfl rfl) rfl rfl ?_
  rintro u aq14 wq14 hf haq14 hsq14
  obtain rfl := Eq.symm hf
  clear haq13 hsq13 aq13 wq13
  refine seq_op haq14 hsq14 rfl (opT_store_blk (g := g3) (off := 2) (l := [.int .i64 p0a.1, .int .i64 p0a.2.1, .int .i64 0]) (d := [.int .i64 p0a.2.2]) (E := 107) (u := .int .i64 p0a.2.2) ti3 rfl rfl rfl rfl rfl (allC rfl allN) (Nat.le_of_ble_eq_true rfl)) (perm_front (i := 1) rfl) rfl ?_
  rintro _ aq15 wq15 - haq15 (hsq15 : St I w0 wq15 [Ch.blk g3 [.int .i64 p0a.1, .int .i64 p0a.2.1, .int .i64 p0a.2.2] 107, Ch.blk g1 [.int .i64 p0a.1, .int .i64 p0a.2.1, .int .i64 p0a.2.2] 153, Ch.blk g2 [.int .i64 0, .int .i64 0, .int .i64 0] 107, F])
  clear haq14 hsq14 aq14 wq14
  refine wpList_nil ?_
  replace haq15 := haq15.pick' (L' := [(2, .pointer (some ⟨g2, 0, none⟩)), (3, .pointer (some ⟨g3, 0, none⟩))]) ⟨rfl, rfl, trivial⟩
  refine nrm ?_
  refine wp_seq ?_
  refine wp_region_lit ?_
  refine seq_op haq15 hsq15 rfl (opT_load_blk (g := g3) (off := 0) (E := 107) (l := [.int .i64 p0a.1, .int .i64 p0a.2.1, .int .i64 p0a.2.2]) (d := [.int .i64 p0a.1, .int .i64 p0a.2.1, .int .i64 p0a.2.2]) (u := .agg #[.int .i64 p0a.1, .int .i64 p0a.2.1, .int .i64 p0a.2.2]) ti107 rfl rfl rfl rfl rfl rfl) (perm_front (i := 0) rfl) rfl ?_
  rintro u aq16 wq16 hf haq16 (hsq16 : St I w0 wq16 [Ch.blk g3 [.int .i64 p0a.1, .int .i64 p0a.2.1, .int .i64 p0a.2.2] 107, Ch.blk g1 [.int .i64 p0a.1, .int .i64 p0a.2.1, .int .i64 p0a.2.2] 153, Ch.blk g2 [.int .i64 0, .int .i64 0, .int .i64 0] 107, F])
  obtain rfl := Eq.symm hf
  clear haq15 hsq15 aq15 wq15
  refine seq_op haq16 hsq16 rfl (opT_store_blk (g := g2) (off := 0) (l := [.int .i64 0, .int .i64 0, .int .i64 0]) (d := [.int .i64 p0a.1, .int .i64 p0a.2.1, .int .i64 p0a.2.2]) (E := 107) (u := .agg #[.int .i64 p0a.1, .int .i64 p0a.2.1, .int .i64 p0a.2.2]) ti107 rfl rfl rfl rfl rfl (allC rfl (allC rfl (allC rfl allN))) (Nat.le_of_ble_eq_true rfl)) (perm_front (i := 2) rfl) rfl ?_
  rintro _ aq17 wq17 - haq17 (hsq17 : St I w0 wq17 [Ch.blk g2 [.int .i64 p0a.1, .int .i64 p0a.2.1, .int .i64 p0a.2.2] 107, Ch.blk g3 [.int .i64 p0a.1, .int .i64 p0a.2.1, .int .i64 p0a.2.2] 107, Ch.blk g1 [.int .i64 p0a.1, .int .i64 p0a.2.1, .int .i64 p0a.2.2] 153, F])
  clear haq16 hsq16 aq16 wq16
  refine wpList_nil ?_
  replace haq17 := haq17.pick' (L' := [(2, .pointer (some ⟨g2, 0, none⟩))]) ⟨rfl, trivial⟩
  refine nrm ?_
  refine wp_ret ?_
  obtain rfl := Option.some.inj hm
  exact ret_1 haq17 rfl (res_cell (g := g2) haq17 rfl hsq17 0 rfl ti107 rfl) ⟨_, rfl, rfl, _, Hp.le.rfl, St.sel (hsq17) 4 [3] rfl rfl⟩
set_option maxHeartbeats 8000000 in
theorem c_w_toIntS (p0a : List Int) (r : List Int) (hm : m_w_toIntS p0a = some r) {I : Hp} {w0 : World} (va0 : Value) (ra0 : (rSlice 3 rInt).rd I [va0] p0a) : Con Try.prog 66 #[va0] I w0 [] (fun v => True) (fun v => [Ch.own (rSlice 3 rInt) [v] r]) := by
  refine con_of_wp (n := 22) [(0, va0)] Try.func66 rfl rfl (Nat.le_of_ble_eq_true rfl) (args_all ⟨rfl, trivial⟩) (fun F w a ha hs => ?_) (fun v => ⟨dp_own (dp_slice dp_int), trivial⟩)
  unfold m_w_toIntS at hm
  refine wp_seq ?_
  refine wp_region_lit ?_
  refine seq_op0 ha hs (opT_assign (v := .slice none 0 0) rfl rfl) rfl rfl ?_
  rintro u aq1 wq1 hf haq1 hsq1
  obtain rfl := Eq.symm hf
  clear ha hs a w
  refine wpList_nil ?_
  replace haq1 := haq1.pick' (L' := [(0, va0)]) ⟨rfl, trivial⟩
  refine nrm ?_
  refine wp_seq ?_
  refine wp_region_lit ?_
  refine seq_op0 haq1 hsq1 (opT_move (v := va0) rfl rfl) rfl rfl ?_
  rintro u aq2 wq2 hf haq2 hsq2
  obtain rfl := Eq.symm hf
  clear haq1 hsq1 aq1 wq1
  refine seq_op0 haq2 hsq2 (opT_len_hd (v := va0) (n := p0a.length) (Hd.of_rd ra0) Try.underlying34 rfl rfl) rfl rfl ?_
  rintro u aq3 wq3 hf haq3 hsq3
  obtain rfl := Eq.symm hf
  clear haq2 hsq2 aq2 wq2
  obtain ⟨x1, hk1, hm⟩ := bind_some hm
  refine seq_op haq3 hsq3 rfl (opT_mk (E := 3) (R := rInt) (zv := .int .i64 0) (z := (0 : Int)) zro_flat Try.underlying34 tz3 rfl rfl (by decide) (by decide) rfl rfl hk1) (List.Perm.refl _) rfl ?_
  rintro v1 aq4 wq4 - haq4 (hsq4 : St I w0 wq4 [Ch.own (rSlice 3 rInt) [v1] x1, F])
  clear haq3 hsq3 aq3 wq3
  refine seq_op0 haq4 hsq4 (opT_assign (v := v1) rfl rfl) rfl rfl ?_
  rintro u aq5 wq5 hf haq5 hsq5
  obtain rfl := Eq.symm hf
  clear haq4 hsq4 aq4 wq4
  refine wpList_nil ?_
  replace haq5 := haq5.pick' (L' := [(0, va0), (3, v1)]) ⟨rfl, rfl, trivial⟩
  refine nrm ?_
  refine wp_seq ?_
  refine wp_seq ?_
  refine wp_region_lit ?_
  refine seq_op0 haq5 hsq5 (opT_assign (v := .int .i64 0) rfl rfl) rfl rfl ?_
  rintro u aq6 wq6 hf haq6 hsq6
  obtain rfl := Eq.symm hf
  clear haq5 hsq5 aq5 wq5
  refine wpList_nil ?_
  replace haq6 := haq6.pick' (L' := [(0, va0), (3, v1), (4, .int .i64 0)]) ⟨rfl, rfl, rfl, trivial⟩
  refine nrm ?_
  obtain ⟨o1, hl1, hc1⟩ := bindL_some hm
  refine wp_cut (fun a w => ∃ s4 : (List Int) × Int, o1 = .brk s4 ∧ ∃ v3 : Value, Agr 22 a [(3, v3)] ∧ St I w0 w [Ch.own (rSlice 3 rInt) [v3] s4.1, F]) ?_ ?_
  · refine wp_block (wp_loopM (R := List Int) (S := (List Int) × Int) (fun s3 a w => ∃ v4 : Value, Agr 22 a [(0, va0), (3, v4), (4, .int .i64 s3.2)] ∧ St I w0 w [Ch.own (rSlice 3 rInt) [v4] s3.1, F]) hl1 ?_ ?_)
    · exact ⟨v1, haq6.pick' ⟨rfl, rfl, rfl, trivial⟩, St.sel hsq6 2 [0, 1] rfl rfl⟩
    · rintro s3 o2 hm hf1 aq37 wq37 ⟨v4, haq37, hsq37⟩
      unfold m_w_toIntS_l0 at hm
      refine wp_seq ?_
      refine wp_seq ?_
      refine wp_region_lit ?_
      refine seq_op0 haq37 hsq37 (opT_move (v := .int .i64 s3.2) rfl rfl) rfl rfl ?_
      rintro u aq38 wq38 hf haq38 hsq38
      obtain rfl := Eq.symm hf
      clear haq37 hsq37 aq37 wq37
      refine seq_op0 haq38 hsq38 (opT_move (v := va0) rfl rfl) rfl rfl ?_
      rintro u aq39 wq39 hf haq39 hsq39
      obtain rfl := Eq.symm hf
      clear haq38 hsq38 aq38 wq38
      refine seq_op0 haq39 hsq39 (opT_len_hd (v := va0) (n := p0a.length) (Hd.of_rd ra0) Try.underlying34 rfl rfl) rfl rfl ?_
      rintro u aq40 wq40 hf haq40 hsq40
      obtain rfl := Eq.symm hf
      clear haq39 hsq39 aq39 wq39
      refine seq_op0 haq40 hsq40 (opT_cmp (k := .i64) (m := s3.2) (n := (p0a.length : Int)) (c := decide (s3.2 < (p0a.length : Int))) rfl rfl rfl rfl rfl) rfl rfl ?_
      rintro u aq41 wq41 hf haq41 hsq41
      obtain rfl := Eq.symm hf
      clear haq40 hsq40 aq40 wq40
      refine wpList_nil ?_
      replace haq41 := haq41.pick' (L' := [(0, va0), (3, v4), (4, .int .i64 s3.2), (11, .bool (decide (s3.2 < (p0a.length : Int))))]) ⟨rfl, rfl, rfl, rfl, trivial⟩
      refine nrm ?_
      rcases two (decide (s3.2 < (p0a.length : Int))) with hb3 | hb3
      · replace hm := ifFe hb3 hm
        refine cnd_false (b := decide (s3.2 < (p0a.length : Int))) haq41 rfl rfl hb3 ?_
        refine wp_exit ?_
        refine thenX ?_
        refine thenX ?_
        refine ex_in ?_
        refine nrm ?_
        exact ⟨_, loopBrk hm hf1, ⟨v4, haq41.pick' ⟨rfl, trivial⟩, St.sel hsq41 2 [0, 1] rfl rfl⟩⟩
      · replace hm := ifTe hb3 hm
        refine cnd_true (b := decide (s3.2 < (p0a.length : Int))) haq41 rfl rfl hb3 ?_
        refine wp_skip ?_
        refine nrm ?_
        refine wp_seq ?_
        refine wp_block ?_
        refine wp_region_lit ?_
        refine seq_op0 haq41 hsq41 (opT_move (v := v4) rfl rfl) rfl rfl ?_
        rintro u aq42 wq42 hf haq42 hsq42
        obtain rfl := Eq.symm hf
        clear haq41 hsq41 aq41 wq41
        refine seq_op0 haq42 hsq42 (opT_move (v := .int .i64 s3.2) rfl rfl) rfl rfl ?_
        rintro u aq43 wq43 hf haq43 hsq43
        obtain rfl := Eq.symm hf
        clear haq42 hsq42 aq42 wq42
        refine seq_op0 haq43 hsq43 (opT_move (v := va0) rfl rfl) rfl rfl ?_
        rintro u aq44 wq44 hf haq44 hsq44
        obtain rfl := Eq.symm hf
        clear haq43 hsq43 aq43 wq43
        refine seq_op0 haq44 hsq44 (opT_move (v := .int .i64 s3.2) rfl rfl) rfl rfl ?_
        rintro u aq45 wq45 hf haq45 hsq45
        obtain rfl := Eq.symm hf
        clear haq44 hsq44 aq44 wq44
        obtain ⟨x6, e5, hm⟩ := bind_some hm
        refine seq_op0 haq45 hsq45 (opT_index_hd (xs := p0a) (i := s3.2) (n := 1) (Hd.of_rd ra0) Try.underlying34 ti3 rfl rfl rfl (getI_in e5)) rfl rfl ?_
        rintro u aq46 wq46 hf haq46 hsq46
        obtain rfl := Eq.symm hf
        clear haq45 hsq45 aq45 wq45
        refine seq_op0 haq46 hsq46 (opT_load_el (S := rInt) (xs := p0a) (a := x6) (i := s3.2) (k := 1) (off := 0) (f := fun (x : Int) => x) ra0 e5 Fld.self ti3 rfl rfl rfl rfl rfl) rfl rfl ?_
        rintro u aq47 wq47 hf haq47 hsq47
        obtain rfl := lds_one hf
        clear haq46 hsq46 aq46 wq46
        obtain ⟨x7, e6, hm⟩ := bind_some hm
        refine seq_op0 haq47 hsq47 (opT_index_hd (xs := s3.1) (i := s3.2) (n := 1) (St.hd hsq47 0 rfl).1 Try.underlying34 ti3 rfl rfl rfl (getI_in e6)) rfl rfl ?_
        rintro u aq48 wq48 hf haq48 hsq48
        obtain rfl := Eq.symm hf
        clear haq47 hsq47 aq47 wq47
        refine seq_op haq48 hsq48 rfl (opT_store_el (E := 3) (R := rInt) (S := rInt) (xs := s3.1) (a := x7) (b := x6) (i := s3.2) (k := 1) (off := 0) (f := fun x y => y) (v := v4) (d := [.int .i64 x6]) (u := .int .i64 x6) sh_int cpy_int e6 Upd.self ti3 rfl rfl rfl rfl (allC rfl allN) rfl rfl (by decide) rfl) (perm_front (i := 0) rfl) rfl ?_
        rintro _ aq49 wq49 - haq49 (hsq49 : St I w0 wq49 [Ch.own (rSlice 3 rInt) [v4] (s3.1.set s3.2.toNat x6), F])
        clear haq48 hsq48 aq48 wq48
        refine wpList_nil ?_
        replace haq49 := haq49.pick' (L' := [(0, va0), (3, v4), (4, .int .i64 s3.2)]) ⟨rfl, rfl, rfl, trivial⟩
        refine nrmB ?_
        refine nrm ?_
        refine wp_region_lit ?_
        refine seq_op0 haq49 hsq49 (opT_move (v := .int .i64 s3.2) rfl rfl) rfl rfl ?_
        rintro u aq50 wq50 hf haq50 hsq50
        obtain rfl := Eq.symm hf
        clear haq49 hsq49 aq49 wq49
        refine seq_op0 haq50 hsq50 (opT_add (m := s3.2) (n := 1) rfl rfl rfl) rfl rfl ?_
        rintro u aq51 wq51 hf haq51 hsq51
        obtain rfl := Eq.symm hf
        clear haq50 hsq50 aq50 wq50
        refine seq_op0 haq51 hsq51 (opT_assign (v := .int .i64 (IntKind.i64.wrap (s3.2 + 1))) rfl rfl) rfl rfl ?_
        rintro u aq52 wq52 hf haq52 hsq52
        obtain rfl := Eq.symm hf
        clear haq51 hsq51 aq51 wq51
        refine wpList_nil ?_
        replace haq52 := haq52.pick' (L' := [(0, va0), (3, v4), (4, .int .i64 (IntKind.i64.wrap (s3.2 + 1)))]) ⟨rfl, rfl, rfl, trivial⟩
        refine nrm ?_
        exact ⟨_, (Option.some.inj hm).symm, ⟨v4, haq52.pick' ⟨rfl, rfl, rfl, trivial⟩, St.sel hsq52 2 [0, 1] rfl rfl⟩⟩
  · rintro aq53 wq53 ⟨s4, ho1, v3, haq53, hsq53⟩
    replace hm := loopOut ho1 hc1
    clear ho1 hc1 hl1
    refine nrm ?_
    refine wp_seq ?_
    refine wp_region_lit ?_
    refine seq_op0 haq53 hsq53 (opT_move (v := v3) rfl rfl) rfl rfl ?_
    rintro u aq54 wq54 hf haq54 hsq54
    obtain rfl := Eq.symm hf
    clear haq53 hsq53 aq53 wq53
    refine seq_op0 haq54 hsq54 (opT_assign (v := v3) rfl rfl) rfl rfl ?_
    rintro u aq55 wq55 hf haq55 hsq55
    obtain rfl := Eq.symm hf
    clear haq54 hsq54 aq54 wq54
    refine wpList_nil ?_
    replace haq55 := haq55.pick' (L' := [(2, v3)]) ⟨rfl, trivial⟩
    refine nrm ?_
    refine wp_ret ?_
    obtain rfl := Option.some.inj hm
    exact ret_1 haq55 rfl (res_tmp haq55 rfl) ⟨_, rfl, trivial, _, Hp.le.rfl, St.sel (hsq55) 2 [0, 1] rfl rfl⟩
end Go.Proofs.Ytcihbmdppgpmjaa.D
