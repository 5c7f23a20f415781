/- Printed by dec.py: models of functions and the walks that show them. -/
import Derived.Test.YtcihbmdppgpmjaaEw0_1
import Derived.Test.YtcihbmdppgpmjaaEw0_3
import Derived.Test.YtcihbmdppgpmjaaEw1_2
import Derived.Test.YtcihbmdppgpmjaaEw1_3
set_option linter.unusedVariables false
set_option linter.unusedSimpArgs false
set_option linter.unnecessarySimpa false
set_option maxRecDepth 100000
namespace Go.Proofs.Ytcihbmdppgpmjaa.D
open Go.RowKit
set_option maxHeartbeats 8000000 in
theorem c_w_szGraphS (p0a : List ((List Int) × (List (Int × Int × Int × Int)))) (p1left : Int) (r : Int) (hm : m_w_szGraphS p0a p1left = some r) {I : Hp} {w0 : World} (va0 : Value) (ra0 : (rSlice 37 (rProd (rSlice 3 rInt) (rSlice 128 (rProd rInt (rProd rInt (rProd rInt rInt)))))).rd I [va0] p0a) : Con Try.prog 128 #[va0, .int .i64 p1left] I w0 [] (fun v => v = .int .i64 r) (fun v => []) := by
  refine con_of_wp (n := 27) [(0, va0), (1, .int .i64 p1left)] Try.func128 rfl rfl (Nat.le_of_ble_eq_true rfl) (args_all ⟨rfl, rfl, trivial⟩) (fun F w a ha hs => ?_) (fun v => trivial)
  unfold m_w_szGraphS at hm
  refine wp_seq ?_
  refine wp_region_lit ?_
  refine seq_op0 ha hs (opT_assign (v := .int .i64 0) rfl rfl) rfl rfl ?_
  rintro u aq1 wq1 hf haq1 hsq1
  obtain rfl := Eq.symm hf
  clear ha hs a w
  refine wpList_nil ?_
  replace haq1 := haq1.pick' (L' := [(0, va0), (1, .int .i64 p1left)]) ⟨rfl, rfl, trivial⟩
  refine nrm ?_
  refine wp_seq ?_
  refine wp_region_lit ?_
  refine seq_op0 haq1 hsq1 (opT_move (v := .int .i64 p1left) rfl rfl) rfl rfl ?_
  rintro u aq2 wq2 hf haq2 hsq2
  obtain rfl := Eq.symm hf
  clear haq1 hsq1 aq1 wq1
  refine seq_op0 haq2 hsq2 (opT_move (v := va0) rfl rfl) rfl rfl ?_
  rintro u aq3 wq3 hf haq3 hsq3
  obtain rfl := Eq.symm hf
  clear haq2 hsq2 aq2 wq2
  refine seq_op0 haq3 hsq3 (opT_len_hd (v := va0) (n := p0a.length) (Hd.of_rd ra0) Try.underlying57 rfl rfl) rfl rfl ?_
  rintro u aq4 wq4 hf haq4 hsq4
  obtain rfl := Eq.symm hf
  clear haq3 hsq3 aq3 wq3
  refine seq_op0 haq4 hsq4 (opT_sub (m := p1left) (n := (p0a.length : Int)) rfl rfl rfl) rfl rfl ?_
  rintro u aq5 wq5 hf haq5 hsq5
  obtain rfl := Eq.symm hf
  clear haq4 hsq4 aq4 wq4
  refine seq_op0 haq5 hsq5 (opT_assign (v := .int .i64 (IntKind.i64.wrap (p1left - (p0a.length : Int)))) rfl rfl) rfl rfl ?_
  rintro u aq6 wq6 hf haq6 hsq6
  obtain rfl := Eq.symm hf
  clear haq5 hsq5 aq5 wq5
  refine wpList_nil ?_
  replace haq6 := haq6.pick' (L' := [(0, va0), (1, .int .i64 (IntKind.i64.wrap (p1left - (p0a.length : Int))))]) ⟨rfl, rfl, trivial⟩
  refine nrm ?_
  refine wp_seq ?_
  refine wp_seq ?_
  refine wp_region_lit ?_
  refine seq_op0 haq6 hsq6 (opT_move (v := .int .i64 (IntKind.i64.wrap (p1left - (p0a.length : Int)))) rfl rfl) rfl rfl ?_
  rintro u aq7 wq7 hf haq7 hsq7
  obtain rfl := Eq.symm hf
  clear haq6 hsq6 aq6 wq6
  refine seq_op0 haq7 hsq7 (opT_cmp (k := .i64) (m := IntKind.i64.wrap (p1left - (p0a.length : Int))) (n := 0) (c := decide (IntKind.i64.wrap (p1left - (p0a.length : Int)) < 0)) rfl rfl rfl rfl rfl) rfl rfl ?_
  rintro u aq8 wq8 hf haq8 hsq8
  obtain rfl := Eq.symm hf
  clear haq7 hsq7 aq7 wq7
  refine wpList_nil ?_
  replace haq8 := haq8.pick' (L' := [(0, va0), (1, .int .i64 (IntKind.i64.wrap (p1left - (p0a.length : Int)))), (11, .bool (decide (IntKind.i64.wrap (p1left - (p0a.length : Int)) < 0)))]) ⟨rfl, rfl, rfl, trivial⟩
  refine nrm ?_
  rcases two (decide (IntKind.i64.wrap (p1left - (p0a.length : Int)) < 0)) with hb1 | hb1
  · replace hm := ifFe hb1 hm
    refine cnd_false (b := decide (IntKind.i64.wrap (p1left - (p0a.length : Int)) < 0)) haq8 rfl rfl hb1 ?_
    refine wp_skip ?_
    refine nrm ?_
    refine wp_seq ?_
    refine wp_seq ?_
    refine wp_region_lit ?_
    refine seq_op0 haq8 hsq8 (opT_assign (v := .int .i64 0) rfl rfl) rfl rfl ?_
    rintro u aq9 wq9 hf haq9 hsq9
    obtain rfl := Eq.symm hf
    clear haq8 hsq8 aq8 wq8
    refine wpList_nil ?_
    replace haq9 := haq9.pick' (L' := [(0, va0), (1, .int .i64 (IntKind.i64.wrap (p1left - (p0a.length : Int)))), (5, .int .i64 0)]) ⟨rfl, rfl, rfl, trivial⟩
    refine nrm ?_
    obtain ⟨o1, hl1, hc1⟩ := bindL_some hm
    refine wp_cut (fun a w => ∃ s4 : Int × Int, o1 = .brk s4 ∧ Agr 27 a [(1, .int .i64 s4.1)] ∧ St I w0 w [F]) ?_ ?_
    · refine wp_block (wp_loopM (R := Int) (S := Int × Int) (fun s3 a w => Agr 27 a [(0, va0), (1, .int .i64 s3.1), (5, .int .i64 s3.2)] ∧ St I w0 w [F]) hl1 ?_ ?_)
      · exact ⟨haq9.pick' ⟨rfl, rfl, rfl, trivial⟩, St.sel hsq9 1 [0] rfl rfl⟩
      · rintro s3 o2 hm hf1 aq44 wq44 ⟨haq44, hsq44⟩
        unfold m_w_szGraphS_l0 at hm
        refine wp_seq ?_
        refine wp_seq ?_
        refine wp_region_lit ?_
        refine seq_op0 haq44 hsq44 (opT_move (v := .int .i64 s3.2) rfl rfl) rfl rfl ?_
        rintro u aq45 wq45 hf haq45 hsq45
        obtain rfl := Eq.symm hf
        clear haq44 hsq44 aq44 wq44
        refine seq_op0 haq45 hsq45 (opT_move (v := va0) rfl rfl) rfl rfl ?_
        rintro u aq46 wq46 hf haq46 hsq46
        obtain rfl := Eq.symm hf
        clear haq45 hsq45 aq45 wq45
        refine seq_op0 haq46 hsq46 (opT_len_hd (v := va0) (n := p0a.length) (Hd.of_rd ra0) Try.underlying57 rfl rfl) rfl rfl ?_
        rintro u aq47 wq47 hf haq47 hsq47
        obtain rfl := Eq.symm hf
        clear haq46 hsq46 aq46 wq46
        refine seq_op0 haq47 hsq47 (opT_cmp (k := .i64) (m := s3.2) (n := (p0a.length : Int)) (c := decide (s3.2 < (p0a.length : Int))) rfl rfl rfl rfl rfl) rfl rfl ?_
        rintro u aq48 wq48 hf haq48 hsq48
        obtain rfl := Eq.symm hf
        clear haq47 hsq47 aq47 wq47
        refine wpList_nil ?_
        replace haq48 := haq48.pick' (L' := [(0, va0), (1, .int .i64 s3.1), (5, .int .i64 s3.2), (15, .bool (decide (s3.2 < (p0a.length : Int))))]) ⟨rfl, rfl, rfl, rfl, trivial⟩
        refine nrm ?_
        rcases two (decide (s3.2 < (p0a.length : Int))) with hb6 | hb6
        · replace hm := ifFe hb6 hm
          refine cnd_false (b := decide (s3.2 < (p0a.length : Int))) haq48 rfl rfl hb6 ?_
          refine wp_exit ?_
          refine thenX ?_
          refine thenX ?_
          refine ex_in ?_
          refine nrm ?_
          exact ⟨_, loopBrk hm hf1, ⟨haq48.pick' ⟨rfl, trivial⟩, St.sel hsq48 1 [0] rfl rfl⟩⟩
        · replace hm := ifTe hb6 hm
          refine cnd_true (b := decide (s3.2 < (p0a.length : Int))) haq48 rfl rfl hb6 ?_
          refine wp_skip ?_
          refine nrm ?_
          refine wp_seq ?_
          refine wp_block ?_
          refine wp_seq ?_
          refine wp_region_lit ?_
          refine seq_op0 haq48 hsq48 (opT_move (v := va0) rfl rfl) rfl rfl ?_
          rintro u aq49 wq49 hf haq49 hsq49
          obtain rfl := Eq.symm hf
          clear haq48 hsq48 aq48 wq48
          refine seq_op0 haq49 hsq49 (opT_move (v := .int .i64 s3.2) rfl rfl) rfl rfl ?_
          rintro u aq50 wq50 hf haq50 hsq50
          obtain rfl := Eq.symm hf
          clear haq49 hsq49 aq49 wq49
          obtain ⟨x3, e5, hm⟩ := bind_some hm
          refine seq_op0 haq50 hsq50 (opT_index_hd (xs := p0a) (i := s3.2) (n := 2) (Hd.of_rd ra0) Try.underlying57 ti37 rfl rfl rfl (getI_in e5)) rfl rfl ?_
          rintro u aq51 wq51 hf haq51 hsq51
          obtain rfl := Eq.symm hf
          clear haq50 hsq50 aq50 wq50
          refine seq_op0 haq51 hsq51 (opT_load_el (S := rProd (rSlice 3 rInt) (rSlice 128 (rProd rInt (rProd rInt (rProd rInt rInt))))) (xs := p0a) (a := x3) (i := s3.2) (k := 2) (off := 0) (f := fun (x : (List Int) × (List (Int × Int × Int × Int))) => x) ra0 e5 Fld.self ti37 rfl rfl rfl rfl rfl) rfl rfl ?_
          rintro u aq52 wq52 ⟨d, hd, hf⟩ haq52 hsq52
          obtain ⟨_, _, rfl, r70, r80⟩ := hd
          obtain ⟨v5, rfl⟩ := one_cell r70 rfl
          have r7 := r70; clear r70
          obtain ⟨v6, rfl⟩ := one_cell r80 rfl
          have r8 := r80; clear r80
          obtain rfl : u = .agg #[v5, v6] := hf
          clear haq51 hsq51 aq51 wq51
          refine seq_op0 haq52 hsq52 (opT_move (v := .int .i64 s3.1) rfl rfl) rfl rfl ?_
          rintro u aq53 wq53 hf haq53 hsq53
          obtain rfl := Eq.symm hf
          clear haq52 hsq52 aq52 wq52
          obtain ⟨r9, e6, hm⟩ := bind_some hm
          refine seq_op0 haq53 hsq53 (opT_call (args := #[.agg #[v5, v6], .int .i64 s3.1]) (first := #[]) (captured := #[]) en23 rfl rfl rfl (c_w_szGraph (x3.1, x3.2) s3.1 _ e6 v5 v6 r7 r8)) rfl rfl ?_
          rintro u aq54 wq54 hf haq54 hsq54
          obtain rfl := Eq.symm hf
          clear haq53 hsq53 aq53 wq53
          refine seq_op0 haq54 hsq54 (opT_assign (v := .int .i64 r9) rfl rfl) rfl rfl ?_
          rintro u aq55 wq55 hf haq55 hsq55
          obtain rfl := Eq.symm hf
          clear haq54 hsq54 aq54 wq54
          refine wpList_nil ?_
          replace haq55 := haq55.pick' (L' := [(0, va0), (1, .int .i64 r9), (5, .int .i64 s3.2)]) ⟨rfl, rfl, rfl, trivial⟩
          refine nrm ?_
          refine wp_seq ?_
          refine wp_region_lit ?_
          refine seq_op0 haq55 hsq55 (opT_move (v := .int .i64 r9) rfl rfl) rfl rfl ?_
          rintro u aq56 wq56 hf haq56 hsq56
          obtain rfl := Eq.symm hf
          clear haq55 hsq55 aq55 wq55
          refine seq_op0 haq56 hsq56 (opT_cmp (k := .i64) (m := r9) (n := 0) (c := decide (r9 < 0)) rfl rfl rfl rfl rfl) rfl rfl ?_
          rintro u aq57 wq57 hf haq57 hsq57
          obtain rfl := Eq.symm hf
          clear haq56 hsq56 aq56 wq56
          refine wpList_nil ?_
          replace haq57 := haq57.pick' (L' := [(0, va0), (1, .int .i64 r9), (5, .int .i64 s3.2), (25, .bool (decide (r9 < 0)))]) ⟨rfl, rfl, rfl, rfl, trivial⟩
          refine nrm ?_
          rcases two (decide (r9 < 0)) with hb7 | hb7
          · replace hm := ifFe hb7 hm
            refine cnd_false (b := decide (r9 < 0)) haq57 rfl rfl hb7 ?_
            refine wp_skip ?_
            refine nrmB ?_
            refine nrm ?_
            refine wp_region_lit ?_
            refine seq_op0 haq57 hsq57 (opT_move (v := .int .i64 s3.2) rfl rfl) rfl rfl ?_
            rintro u aq58 wq58 hf haq58 hsq58
            obtain rfl := Eq.symm hf
            clear haq57 hsq57 aq57 wq57
            refine seq_op0 haq58 hsq58 (opT_add (m := s3.2) (n := 1) rfl rfl rfl) rfl rfl ?_
            rintro u aq59 wq59 hf haq59 hsq59
            obtain rfl := Eq.symm hf
            clear haq58 hsq58 aq58 wq58
            refine seq_op0 haq59 hsq59 (opT_assign (v := .int .i64 (IntKind.i64.wrap (s3.2 + 1))) rfl rfl) rfl rfl ?_
            rintro u aq60 wq60 hf haq60 hsq60
            obtain rfl := Eq.symm hf
            clear haq59 hsq59 aq59 wq59
            refine wpList_nil ?_
            replace haq60 := haq60.pick' (L' := [(0, va0), (1, .int .i64 r9), (5, .int .i64 (IntKind.i64.wrap (s3.2 + 1)))]) ⟨rfl, rfl, rfl, trivial⟩
            refine nrm ?_
            exact ⟨_, (Option.some.inj hm).symm, ⟨haq60.pick' ⟨rfl, rfl, rfl, trivial⟩, St.sel hsq60 1 [0] rfl rfl⟩⟩
          · replace hm := ifTe hb7 hm
            refine cnd_true (b := decide (r9 < 0)) haq57 rfl rfl hb7 ?_
            refine wp_seq ?_
            refine wp_region_lit ?_
            refine seq_op0 haq57 hsq57 (opT_assign (v := .int .i64 (-1)) rfl rfl) rfl rfl ?_
            rintro u aq61 wq61 hf haq61 hsq61
            obtain rfl := Eq.symm hf
            clear haq57 hsq57 aq57 wq57
            refine wpList_nil ?_
            replace haq61 := haq61.pick' (L' := [(4, .int .i64 (-1))]) ⟨rfl, trivial⟩
            refine nrm ?_
            refine wp_ret ?_
            refine blkR ?_
            refine thenR ?_
            refine thenR ?_
            refine blkR ?_
            refine thenR ?_
            refine thenR ?_
            replace hm := loopRet hm hf1 hc1
            obtain rfl := Option.some.inj hm
            exact ret_1 haq61 rfl (res_tmp haq61 rfl) ⟨_, rfl, rfl, _, Hp.le.rfl, St.sel (hsq61) 1 [0] rfl rfl⟩
    · rintro aq62 wq62 ⟨s4, ho1, haq62, hsq62⟩
      replace hm := loopOut ho1 hc1
      clear ho1 hc1 hl1
      refine nrm ?_
      refine wp_seq ?_
      refine wp_region_lit ?_
      refine seq_op0 haq62 hsq62 (opT_move (v := .int .i64 s4.1) rfl rfl) rfl rfl ?_
      rintro u aq63 wq63 hf haq63 hsq63
      obtain rfl := Eq.symm hf
      clear haq62 hsq62 aq62 wq62
      refine seq_op0 haq63 hsq63 (opT_assign (v := .int .i64 s4.1) rfl rfl) rfl rfl ?_
      rintro u aq64 wq64 hf haq64 hsq64
      obtain rfl := Eq.symm hf
      clear haq63 hsq63 aq63 wq63
      refine wpList_nil ?_
      replace haq64 := haq64.pick' (L' := [(4, .int .i64 s4.1)]) ⟨rfl, trivial⟩
      refine nrm ?_
      refine wp_ret ?_
      obtain rfl := Option.some.inj hm
      exact ret_1 haq64 rfl (res_tmp haq64 rfl) ⟨_, rfl, rfl, _, Hp.le.rfl, St.sel (hsq64) 1 [0] rfl rfl⟩
  · replace hm := ifTe hb1 hm
    refine cnd_true (b := decide (IntKind.i64.wrap (p1left - (p0a.length : Int)) < 0)) haq8 rfl rfl hb1 ?_
    refine wp_seq ?_
    refine wp_region_lit ?_
    refine seq_op0 haq8 hsq8 (opT_assign (v := .int .i64 (-1)) rfl rfl) rfl rfl ?_
    rintro u aq65 wq65 hf haq65 hsq65
    obtain rfl := Eq.symm hf
    clear haq8 hsq8 aq8 wq8
    refine wpList_nil ?_
    replace haq65 := haq65.pick' (L' := [(4, .int .i64 (-1))]) ⟨rfl, trivial⟩
    refine nrm ?_
    refine wp_ret ?_
    refine thenR ?_
    obtain rfl := Option.some.inj hm
    exact ret_1 haq65 rfl (res_tmp haq65 rfl) ⟨_, rfl, rfl, _, Hp.le.rfl, St.sel (hsq65) 1 [0] rfl rfl⟩
set_option maxHeartbeats 8000000 in
theorem c_w_eqAutomaton (p0a : Int × (List Bool) × (List (List Int))) (p1b : Int × (List Bool) × (List (List Int))) (r : Bool) (hm : m_w_eqAutomaton p0a p1b = some r) {I : Hp} {w0 : World} (va0 : Value) (va1 : Value) (va2 : Value) (va3 : Value) (ra0 : (rSlice 4 rBool).rd I [va0] p0a.2.1) (ra1 : (rSlice 34 (rSlice 3 rInt)).rd I [va1] p0a.2.2) (ra2 : (rSlice 4 rBool).rd I [va2] p1b.2.1) (ra3 : (rSlice 34 (rSlice 3 rInt)).rd I [va3] p1b.2.2) : Con Try.prog 16 #[.agg #[.int .i64 p0a.1, va0, va1], .agg #[.int .i64 p1b.1, va2, va3]] I w0 [] (fun v => v = .bool r) (fun v => []) := by
  refine con_of_wp (n := 22) [(0, .agg #[.int .i64 p0a.1, va0, va1]), (1, .agg #[.int .i64 p1b.1, va2, va3])] Try.func16 rfl rfl (Nat.le_of_ble_eq_true rfl) (args_all ⟨rfl, rfl, trivial⟩) (fun F w a ha hs => ?_) (fun v => trivial)
  unfold m_w_eqAutomaton at hm
  refine wp_seq ?_
  refine wp_region_lit ?_
  refine seq_op ha hs rfl (opT_box (u := .agg #[.int .i64 p0a.1, va0, va1]) (l := [.int .i64 p0a.1, va0, va1]) rfl rfl rfl) (List.Perm.refl _) rfl ?_
  rintro _ aq1 wq1 ⟨g1, rfl⟩ haq1 (hsq1 : St I w0 wq1 [Ch.blk g1 [.int .i64 p0a.1, va0, va1] 27, F])
  clear ha hs a w
  refine seq_op haq1 hsq1 rfl (opT_box (u := .agg #[.int .i64 p1b.1, va2, va3]) (l := [.int .i64 p1b.1, va2, va3]) rfl rfl rfl) (List.Perm.refl _) rfl ?_
  rintro _ aq2 wq2 ⟨g2, rfl⟩ haq2 (hsq2 : St I w0 wq2 [Ch.blk g2 [.int .i64 p1b.1, va2, va3] 27, Ch.blk g1 [.int .i64 p0a.1, va0, va1] 27, F])
  clear haq1 hsq1 aq1 wq1
  refine seq_op0 haq2 hsq2 (opT_assign (v := .bool false) rfl rfl) rfl rfl ?_
  rintro u aq3 wq3 hf haq3 hsq3
  obtain rfl := Eq.symm hf
  clear haq2 hsq2 aq2 wq2
  refine wpList_nil ?_
  replace haq3 := haq3.pick' (L' := [(2, .pointer (some ⟨g1, 0, none⟩)), (3, .pointer (some ⟨g2, 0, none⟩))]) ⟨rfl, rfl, trivial⟩
  refine nrm ?_
  refine wp_seq ?_
  refine wp_seq ?_
  refine wp_region_lit ?_
  refine seq_op0 haq3 hsq3 (opT_field_addr (g := g1) (b := 0) tf27_0 rfl rfl) rfl rfl ?_
  rintro u aq4 wq4 hf haq4 hsq4
  obtain rfl := Eq.symm hf
  clear haq3 hsq3 aq3 wq3
  refine seq_op haq4 hsq4 rfl (opT_load_blk (g := g1) (off := 0) (E := 27) (l := [.int .i64 p0a.1, va0, va1]) (d := [.int .i64 p0a.1]) (u := .int .i64 p0a.1) ti3 rfl rfl rfl rfl rfl rfl) (perm_front (i := 1) rfl) rfl ?_
  rintro u aq5 wq5 hf haq5 (hsq5 : St I w0 wq5 [Ch.blk g1 [.int .i64 p0a.1, va0, va1] 27, Ch.blk g2 [.int .i64 p1b.1, va2, va3] 27, F])
  obtain rfl := Eq.symm hf
  clear haq4 hsq4 aq4 wq4
  refine seq_op0 haq5 hsq5 (opT_field_addr (g := g2) (b := 0) tf27_0 rfl rfl) rfl rfl ?_
  rintro u aq6 wq6 hf haq6 hsq6
  obtain rfl := Eq.symm hf
  clear haq5 hsq5 aq5 wq5
  refine seq_op haq6 hsq6 rfl (opT_load_blk (g := g2) (off := 0) (E := 27) (l := [.int .i64 p1b.1, va2, va3]) (d := [.int .i64 p1b.1]) (u := .int .i64 p1b.1) ti3 rfl rfl rfl rfl rfl rfl) (perm_front (i := 1) rfl) rfl ?_
  rintro u aq7 wq7 hf haq7 (hsq7 : St I w0 wq7 [Ch.blk g2 [.int .i64 p1b.1, va2, va3] 27, Ch.blk g1 [.int .i64 p0a.1, va0, va1] 27, F])
  obtain rfl := Eq.symm hf
  clear haq6 hsq6 aq6 wq6
  refine seq_op0 haq7 hsq7 (opT_cmp (k := .i64) (m := p0a.1) (n := p1b.1) (c := p0a.1 != p1b.1) rfl rfl rfl rfl rfl) rfl rfl ?_
  rintro u aq8 wq8 hf haq8 hsq8
  obtain rfl := Eq.symm hf
  clear haq7 hsq7 aq7 wq7
  refine wpList_nil ?_
  replace haq8 := haq8.pick' (L' := [(2, .pointer (some ⟨g1, 0, none⟩)), (3, .pointer (some ⟨g2, 0, none⟩)), (9, .bool (p0a.1 != p1b.1))]) ⟨rfl, rfl, rfl, trivial⟩
  refine nrm ?_
  rcases two (p0a.1 != p1b.1) with hb1 | hb1
  · replace hm := ifFe hb1 hm
    refine cnd_false (b := p0a.1 != p1b.1) haq8 rfl rfl hb1 ?_
    refine wp_skip ?_
    refine nrm ?_
    refine wp_seq ?_
    refine wp_seq ?_
    refine wp_region_lit ?_
    refine seq_op0 haq8 hsq8 (opT_field_addr (g := g1) (b := 0) tf27_1 rfl rfl) rfl rfl ?_
    rintro u aq9 wq9 hf haq9 hsq9
    obtain rfl := Eq.symm hf
    clear haq8 hsq8 aq8 wq8
    refine seq_op haq9 hsq9 rfl (opT_load_blk (g := g1) (off := 1) (E := 27) (l := [.int .i64 p0a.1, va0, va1]) (d := [va0]) (u := va0) ti22 rfl rfl rfl rfl rfl rfl) (perm_front (i := 1) rfl) rfl ?_
    rintro u aq10 wq10 hf haq10 (hsq10 : St I w0 wq10 [Ch.blk g1 [.int .i64 p0a.1, va0, va1] 27, Ch.blk g2 [.int .i64 p1b.1, va2, va3] 27, F])
    obtain rfl := Eq.symm hf
    clear haq9 hsq9 aq9 wq9
    refine seq_op0 haq10 hsq10 (opT_field_addr (g := g2) (b := 0) tf27_1 rfl rfl) rfl rfl ?_
    rintro u aq11 wq11 hf haq11 hsq11
    obtain rfl := Eq.symm hf
    clear haq10 hsq10 aq10 wq10
    refine seq_op haq11 hsq11 rfl (opT_load_blk (g := g2) (off := 1) (E := 27) (l := [.int .i64 p1b.1, va2, va3]) (d := [va2]) (u := va2) ti22 rfl rfl rfl rfl rfl rfl) (perm_front (i := 1) rfl) rfl ?_
    rintro u aq12 wq12 hf haq12 (hsq12 : St I w0 wq12 [Ch.blk g2 [.int .i64 p1b.1, va2, va3] 27, Ch.blk g1 [.int .i64 p0a.1, va0, va1] 27, F])
    obtain rfl := Eq.symm hf
    clear haq11 hsq11 aq11 wq11
    obtain ⟨r1, e1, hm⟩ := bind_some hm
    refine seq_op0 haq12 hsq12 (opT_call (args := #[va0, va2]) (first := #[]) (captured := #[]) en53 rfl rfl rfl (c_w_eqBoolS p0a.2.1 p1b.2.1 _ e1 va0 va2 ra0 ra2)) rfl rfl ?_
    rintro u aq13 wq13 hf haq13 hsq13
    obtain rfl := Eq.symm hf
    clear haq12 hsq12 aq12 wq12
    refine seq_op0 haq13 hsq13 (opT_not (b := r1) rfl rfl) rfl rfl ?_
    rintro u aq14 wq14 hf haq14 hsq14
    obtain rfl := Eq.symm hf
    clear haq13 hsq13 aq13 wq13
    refine wpList_nil ?_
    replace haq14 := haq14.pick' (L' := [(2, .pointer (some ⟨g1, 0, none⟩)), (3, .pointer (some ⟨g2, 0, none⟩)), (15, .bool (!r1))]) ⟨rfl, rfl, rfl, trivial⟩
    refine nrm ?_
    rcases two (r1) with hb2 | hb2
    · replace hm := ifFe hb2 hm
      refine cnd_true (b := !r1) haq14 rfl rfl (notT hb2) ?_
      refine wp_seq ?_
      refine wp_region_lit ?_
      refine seq_op0 haq14 hsq14 (opT_assign (v := .bool false) rfl rfl) rfl rfl ?_
      rintro u aq15 wq15 hf haq15 hsq15
      obtain rfl := Eq.symm hf
      clear haq14 hsq14 aq14 wq14
      refine wpList_nil ?_
      replace haq15 := haq15.pick' (L' := [(4, .bool false)]) ⟨rfl, trivial⟩
      refine nrm ?_
      refine wp_ret ?_
      refine thenR ?_
      obtain rfl := Option.some.inj hm
      exact ret_1 haq15 rfl (res_tmp haq15 rfl) ⟨_, rfl, rfl, _, Hp.le.rfl, St.sel (hsq15) 3 [2] rfl rfl⟩
    · replace hm := ifTe hb2 hm
      refine cnd_false (b := !r1) haq14 rfl rfl (notF hb2) ?_
      refine wp_skip ?_
      refine nrm ?_
      refine wp_seq ?_
      refine wp_seq ?_
      refine wp_region_lit ?_
      refine seq_op0 haq14 hsq14 (opT_field_addr (g := g1) (b := 0) tf27_2 rfl rfl) rfl rfl ?_
      rintro u aq16 wq16 hf haq16 hsq16
      obtain rfl := Eq.symm hf
      clear haq14 hsq14 aq14 wq14
      refine seq_op haq16 hsq16 rfl (opT_load_blk (g := g1) (off := 2) (E := 27) (l := [.int .i64 p0a.1, va0, va1]) (d := [va1]) (u := va1) ti23 rfl rfl rfl rfl rfl rfl) (perm_front (i := 1) rfl) rfl ?_
      rintro u aq17 wq17 hf haq17 (hsq17 : St I w0 wq17 [Ch.blk g1 [.int .i64 p0a.1, va0, va1] 27, Ch.blk g2 [.int .i64 p1b.1, va2, va3] 27, F])
      obtain rfl := Eq.symm hf
      clear haq16 hsq16 aq16 wq16
      refine seq_op0 haq17 hsq17 (opT_field_addr (g := g2) (b := 0) tf27_2 rfl rfl) rfl rfl ?_
      rintro u aq18 wq18 hf haq18 hsq18
      obtain rfl := Eq.symm hf
      clear haq17 hsq17 aq17 wq17
      refine seq_op haq18 hsq18 rfl (opT_load_blk (g := g2) (off := 2) (E := 27) (l := [.int .i64 p1b.1, va2, va3]) (d := [va3]) (u := va3) ti23 rfl rfl rfl rfl rfl rfl) (perm_front (i := 1) rfl) rfl ?_
      rintro u aq19 wq19 hf haq19 (hsq19 : St I w0 wq19 [Ch.blk g2 [.int .i64 p1b.1, va2, va3] 27, Ch.blk g1 [.int .i64 p0a.1, va0, va1] 27, F])
      obtain rfl := Eq.symm hf
      clear haq18 hsq18 aq18 wq18
      obtain ⟨r2, e2, hm⟩ := bind_some hm
      refine seq_op0 haq19 hsq19 (opT_call (args := #[va1, va3]) (first := #[]) (captured := #[]) en54 rfl rfl rfl (c_w_eqIntSS p0a.2.2 p1b.2.2 _ e2 va1 va3 ra1 ra3)) rfl rfl ?_
      rintro u aq20 wq20 hf haq20 hsq20
      obtain rfl := Eq.symm hf
      clear haq19 hsq19 aq19 wq19
      refine seq_op0 haq20 hsq20 (opT_not (b := r2) rfl rfl) rfl rfl ?_
      rintro u aq21 wq21 hf haq21 hsq21
      obtain rfl := Eq.symm hf
      clear haq20 hsq20 aq20 wq20
      refine wpList_nil ?_
      replace haq21 := haq21.pick' (L' := [(21, .bool (!r2))]) ⟨rfl, trivial⟩
      refine nrm ?_
      rcases two (r2) with hb3 | hb3
      · replace hm := ifFe hb3 hm
        refine cnd_true (b := !r2) haq21 rfl rfl (notT hb3) ?_
        refine wp_seq ?_
        refine wp_region_lit ?_
        refine seq_op0 haq21 hsq21 (opT_assign (v := .bool false) rfl rfl) rfl rfl ?_
        rintro u aq22 wq22 hf haq22 hsq22
        obtain rfl := Eq.symm hf
        clear haq21 hsq21 aq21 wq21
        refine wpList_nil ?_
        replace haq22 := haq22.pick' (L' := [(4, .bool false)]) ⟨rfl, trivial⟩
        refine nrm ?_
        refine wp_ret ?_
        refine thenR ?_
        obtain rfl := Option.some.inj hm
        exact ret_1 haq22 rfl (res_tmp haq22 rfl) ⟨_, rfl, rfl, _, Hp.le.rfl, St.sel (hsq22) 3 [2] rfl rfl⟩
      · replace hm := ifTe hb3 hm
        refine cnd_false (b := !r2) haq21 rfl rfl (notF hb3) ?_
        refine wp_skip ?_
        refine nrm ?_
        refine wp_seq ?_
        refine wp_region_lit ?_
        refine seq_op0 haq21 hsq21 (opT_assign (v := .bool true) rfl rfl) rfl rfl ?_
        rintro u aq23 wq23 hf haq23 hsq23
        obtain rfl := Eq.symm hf
        clear haq21 hsq21 aq21 wq21
        refine wpList_nil ?_
        replace haq23 := haq23.pick' (L' := [(4, .bool true)]) ⟨rfl, trivial⟩
        refine nrm ?_
        refine wp_ret ?_
        obtain rfl := Option.some.inj hm
        exact ret_1 haq23 rfl (res_tmp haq23 rfl) ⟨_, rfl, rfl, _, Hp.le.rfl, St.sel (hsq23) 3 [2] rfl rfl⟩
  · replace hm := ifTe hb1 hm
    refine cnd_true (b := p0a.1 != p1b.1) haq8 rfl rfl hb1 ?_
    refine wp_seq ?_
    refine wp_region_lit ?_
    refine seq_op0 haq8 hsq8 (opT_assign (v := .bool false) rfl rfl) rfl rfl ?_
    rintro u aq24 wq24 hf haq24 hsq24
    obtain rfl := Eq.symm hf
    clear haq8 hsq8 aq8 wq8
    refine wpList_nil ?_
    replace haq24 := haq24.pick' (L' := [(4, .bool false)]) ⟨rfl, trivial⟩
    refine nrm ?_
    refine wp_ret ?_
    refine thenR ?_
    obtain rfl := Option.some.inj hm
    exact ret_1 haq24 rfl (res_tmp haq24 rfl) ⟨_, rfl, rfl, _, Hp.le.rfl, St.sel (hsq24) 3 [2] rfl rfl⟩
set_option maxHeartbeats 8000000 in
theorem c_w_toGraph (p0a : (List Int) × (List (Int × Int × Int × Int))) (r : (List Int) × (List (Int × Int × Int × Int))) (hm : m_w_toGraph p0a = some r) {I : Hp} {w0 : World} (va0 : Value) (va1 : Value) (ra0 : (rSlice 3 rInt).rd I [va0] p0a.1) (ra1 : (rSlice 128 (rProd rInt (rProd rInt (rProd rInt rInt)))).rd I [va1] p0a.2) : Con Try.prog 26 #[.agg #[va0, va1]] I w0 [] (fun v => ∃ h0 h1 : Value, v = .agg #[h0, h1]) (fun v => [Ch.own (rSlice 3 rInt) [vg v [0]] r.1, Ch.own (rSlice 126 (rProd rInt (rProd rInt (rProd rInt rInt)))) [vg v [1]] r.2]) := by
  refine con_of_wp (n := 13) [(0, .agg #[va0, va1])] Try.func26 rfl rfl (Nat.le_of_ble_eq_true rfl) (args_all ⟨rfl, trivial⟩) (fun F w a ha hs => ?_) (fun v => ⟨dp_own (dp_slice dp_int), dp_own (dp_slice (dp_prod dp_int (dp_prod dp_int (dp_prod dp_int dp_int)))), trivial⟩)
  unfold m_w_toGraph at hm
  refine wp_seq ?_
  refine wp_region_lit ?_
  refine seq_op ha hs rfl (opT_box (u := .agg #[va0, va1]) (l := [va0, va1]) rfl rfl rfl) (List.Perm.refl _) rfl ?_
  rintro _ aq1 wq1 ⟨g1, rfl⟩ haq1 (hsq1 : St I w0 wq1 [Ch.blk g1 [va0, va1] 37, F])
  clear ha hs a w
  refine seq_op haq1 hsq1 rfl (opT_alloc (l := [.slice none 0 0, .slice none 0 0]) tz45 rfl rfl) (List.Perm.refl _) rfl ?_
  rintro _ aq2 wq2 ⟨g2, rfl⟩ haq2 (hsq2 : St I w0 wq2 [Ch.blk g2 [.slice none 0 0, .slice none 0 0] 45, Ch.blk g1 [va0, va1] 37, F])
  clear haq1 hsq1 aq1 wq1
  refine wpList_nil ?_
  replace haq2 := haq2.pick' (L' := [(1, .pointer (some ⟨g1, 0, none⟩)), (2, .pointer (some ⟨g2, 0, none⟩))]) ⟨rfl, rfl, trivial⟩
  refine nrm ?_
  refine wp_seq ?_
  refine wp_region_lit ?_
  refine seq_op haq2 hsq2 rfl (opT_alloc (l := [.slice none 0 0, .slice none 0 0]) tz45 rfl rfl) (List.Perm.refl _) rfl ?_
  rintro _ aq3 wq3 ⟨g3, rfl⟩ haq3 (hsq3 : St I w0 wq3 [Ch.blk g3 [.slice none 0 0, .slice none 0 0] 45, Ch.blk g2 [.slice none 0 0, .slice none 0 0] 45, Ch.blk g1 [va0, va1] 37, F])
  clear haq2 hsq2 aq2 wq2
  refine wpList_nil ?_
  replace haq3 := haq3.pick' (L' := [(1, .pointer (some ⟨g1, 0, none⟩)), (2, .pointer (some ⟨g2, 0, none⟩)), (3, .pointer (some ⟨g3, 0, none⟩))]) ⟨rfl, rfl, rfl, trivial⟩
  refine nrm ?_
  refine wp_seq ?_
  refine wp_region_lit ?_
  refine seq_op0 haq3 hsq3 (opT_field_addr (g := g1) (b := 0) tf37_0 rfl rfl) rfl rfl ?_
  rintro u aq4 wq4 hf haq4 hsq4
  obtain rfl := Eq.symm hf
  clear haq3 hsq3 aq3 wq3
  refine seq_op haq4 hsq4 rfl (opT_load_blk (g := g1) (off := 0) (E := 37) (l := [va0, va1]) (d := [va0]) (u := va0) ti34 rfl rfl rfl rfl rfl rfl) (perm_front (i := 2) rfl) rfl ?_
  rintro u aq5 wq5 hf haq5 (hsq5 : St I w0 wq5 [Ch.blk g1 [va0, va1] 37, Ch.blk g3 [.slice none 0 0, .slice none 0 0] 45, Ch.blk g2 [.slice none 0 0, .slice none 0 0] 45, F])
  obtain rfl := Eq.symm hf
  clear haq4 hsq4 aq4 wq4
  obtain ⟨r1, e1, hm⟩ := bind_some hm
  refine seq_op haq5 hsq5 rfl (opT_call (args := #[va0]) (first := #[]) (captured := #[]) en66 rfl rfl rfl (c_w_toIntS p0a.1 _ e1 va0 ra0)) (List.Perm.refl _) rfl ?_
  rintro v1 aq6 wq6 - haq6 (hsq6 : St I w0 wq6 [Ch.own (rSlice 3 rInt) [v1] r1, Ch.blk g1 [va0, va1] 37, Ch.blk g3 [.slice none 0 0, .slice none 0 0] 45, Ch.blk g2 [.slice none 0 0, .slice none 0 0] 45, F])
  clear haq5 hsq5 aq5 wq5
  refine seq_op0 haq6 hsq6 (opT_field_addr (g := g3) (b := 0) tf45_0 rfl rfl) rfl rfl ?_
  rintro u aq7 wq7 hf haq7 hsq7
  obtain rfl := Eq.symm hf
  clear haq6 hsq6 aq6 wq6
  refine seq_op haq7 hsq7 rfl (opT_store_blk (g := g3) (off := 0) (l := [.slice none 0 0, .slice none 0 0]) (d := [v1]) (E := 45) (u := v1) ti34 rfl rfl rfl (Hd.cells (St.hd hsq7 0 rfl).1) rfl (allC (Hd.one (St.hd hsq7 0 rfl).1) allN) (Nat.le_of_ble_eq_true rfl)) (perm_front (i := 2) rfl) rfl ?_
  rintro _ aq8 wq8 - haq8 (hsq8 : St I w0 wq8 [Ch.blk g3 [v1, .slice none 0 0] 45, Ch.own (rSlice 3 rInt) [v1] r1, Ch.blk g1 [va0, va1] 37, Ch.blk g2 [.slice none 0 0, .slice none 0 0] 45, F])
  clear haq7 hsq7 aq7 wq7
  refine wpList_nil ?_
  replace haq8 := haq8.pick' (L' := [(1, .pointer (some ⟨g1, 0, none⟩)), (2, .pointer (some ⟨g2, 0, none⟩)), (3, .pointer (some ⟨g3, 0, none⟩))]) ⟨rfl, rfl, rfl, trivial⟩
  refine nrm ?_
  refine wp_seq ?_
  refine wp_region_lit ?_
  refine seq_op0 haq8 hsq8 (opT_field_addr (g := g1) (b := 0) tf37_1 rfl rfl) rfl rfl ?_
  rintro u aq9 wq9 hf haq9 hsq9
  obtain rfl := Eq.symm hf
  clear haq8 hsq8 aq8 wq8
  refine seq_op haq9 hsq9 rfl (opT_load_blk (g := g1) (off := 1) (E := 37) (l := [va0, va1]) (d := [va1]) (u := va1) ti35 rfl rfl rfl rfl rfl rfl) (perm_front (i := 2) rfl) rfl ?_
  rintro u aq10 wq10 hf haq10 (hsq10 : St I w0 wq10 [Ch.blk g1 [va0, va1] 37, Ch.blk g3 [v1, .slice none 0 0] 45, Ch.own (rSlice 3 rInt) [v1] r1, Ch.blk g2 [.slice none 0 0, .slice none 0 0] 45, F])
  obtain rfl := Eq.symm hf
  clear haq9 hsq9 aq9 wq9
  obtain ⟨r2, e2, hm⟩ := bind_some hm
  refine seq_op haq10 hsq10 rfl (opT_call (args := #[va1]) (first := #[]) (captured := #[]) en67 rfl rfl rfl (c_w_toEdgeS p0a.2 _ e2 va1 ra1)) (List.Perm.refl _) rfl ?_
  rintro v2 aq11 wq11 - haq11 (hsq11 : St I w0 wq11 [Ch.own (rSlice 126 (rProd rInt (rProd rInt (rProd rInt rInt)))) [v2] r2, Ch.blk g1 [va0, va1] 37, Ch.blk g3 [v1, .slice none 0 0] 45, Ch.own (rSlice 3 rInt) [v1] r1, Ch.blk g2 [.slice none 0 0, .slice none 0 0] 45, F])
  clear haq10 hsq10 aq10 wq10
  refine seq_op0 haq11 hsq11 (opT_field_addr (g := g3) (b := 0) tf45_1 rfl rfl) rfl rfl ?_
  rintro u aq12 wq12 hf haq12 hsq12
  obtain rfl := Eq.symm hf
  clear haq11 hsq11 aq11 wq11
  refine seq_op haq12 hsq12 rfl (opT_store_blk (g := g3) (off := 1) (l := [v1, .slice none 0 0]) (d := [v2]) (E := 45) (u := v2) ti43 rfl rfl rfl (Hd.cells (St.hd hsq12 0 rfl).1) rfl (allC (Hd.one (St.hd hsq12 0 rfl).1) allN) (Nat.le_of_ble_eq_true rfl)) (perm_front (i := 2) rfl) rfl ?_
  rintro _ aq13 wq13 - haq13 (hsq13 : St I w0 wq13 [Ch.blk g3 [v1, v2] 45, Ch.own (rSlice 126 (rProd rInt (rProd rInt (rProd rInt rInt)))) [v2] r2, Ch.blk g1 [va0, va1] 37, Ch.own (rSlice 3 rInt) [v1] r1, Ch.blk g2 [.slice none 0 0, .slice none 0 0] 45, F])
  clear haq12 hsq12 aq12 wq12
  refine wpList_nil ?_
  replace haq13 := haq13.pick' (L' := [(2, .pointer (some ⟨g2, 0, none⟩)), (3, .pointer (some ⟨g3, 0, none⟩))]) ⟨rfl, rfl, trivial⟩
  refine nrm ?_
  refine wp_seq ?_
  refine wp_region_lit ?_
  refine seq_op haq13 hsq13 rfl (opT_load_blk (g := g3) (off := 0) (E := 45) (l := [v1, v2]) (d := [v1, v2]) (u := .agg #[v1, v2]) ti45 rfl rfl rfl rfl rfl rfl) (perm_front (i := 0) rfl) rfl ?_
  rintro u aq14 wq14 hf haq14 (hsq14 : St I w0 wq14 [Ch.blk g3 [v1, v2] 45, Ch.own (rSlice 126 (rProd rInt (rProd rInt (rProd rInt rInt)))) [v2] r2, Ch.blk g1 [va0, va1] 37, Ch.own (rSlice 3 rInt) [v1] r1, Ch.blk g2 [.slice none 0 0, .slice none 0 0] 45, F])
  obtain rfl := Eq.symm hf
  clear haq13 hsq13 aq13 wq13
  refine seq_op haq14 hsq14 rfl (opT_store_blk (g := g2) (off := 0) (l := [.slice none 0 0, .slice none 0 0]) (d := [v1, v2]) (E := 45) (u := .agg #[v1, v2]) ti45 rfl rfl rfl rfl rfl (allC (Hd.one (St.hd hsq14 3 rfl).1) (allC (Hd.one (St.hd hsq14 1 rfl).1) allN)) (Nat.le_of_ble_eq_true rfl)) (perm_front (i := 4) rfl) rfl ?_
  rintro _ aq15 wq15 - haq15 (hsq15 : St I w0 wq15 [Ch.blk g2 [v1, v2] 45, Ch.blk g3 [v1, v2] 45, Ch.own (rSlice 126 (rProd rInt (rProd rInt (rProd rInt rInt)))) [v2] r2, Ch.blk g1 [va0, va1] 37, Ch.own (rSlice 3 rInt) [v1] r1, F])
  clear haq14 hsq14 aq14 wq14
  refine wpList_nil ?_
  replace haq15 := haq15.pick' (L' := [(2, .pointer (some ⟨g2, 0, none⟩))]) ⟨rfl, trivial⟩
  refine nrm ?_
  refine wp_ret ?_
  obtain rfl := Option.some.inj hm
  exact ret_1 haq15 rfl (res_cell (g := g2) haq15 rfl hsq15 0 rfl ti45 rfl) ⟨_, rfl, ⟨_, _, rfl⟩, _, Hp.le.rfl, St.sel (hsq15) 6 [4, 2, 5] rfl rfl⟩
set_option maxHeartbeats 8000000 in
theorem c_i_EqualHistories (p0a : Int × (List ((List Int) × (List (Int × Int × Int × Int))))) (p1b : Int × (List ((List Int) × (List (Int × Int × Int × Int))))) (r : Bool) (hm : m_i_EqualHistories p0a p1b = some r) {I : Hp} {w0 : World} (va0 : Value) (va1 : Value) (ra0 : (rSlice 45 (rProd (rSlice 3 rInt) (rSlice 126 (rProd rInt (rProd rInt (rProd rInt rInt)))))).rd I [va0] p0a.2) (ra1 : (rSlice 45 (rProd (rSlice 3 rInt) (rSlice 126 (rProd rInt (rProd rInt (rProd rInt rInt)))))).rd I [va1] p1b.2) : Con Try.prog 86 #[.agg #[.int .i64 p0a.1, va0], .agg #[.int .i64 p1b.1, va1]] I w0 [] (fun v => v = .bool r) (fun v => []) := by
  refine con_of_wp (n := 17) [(0, .agg #[.int .i64 p0a.1, va0]), (1, .agg #[.int .i64 p1b.1, va1])] Try.func86 rfl rfl (Nat.le_of_ble_eq_true rfl) (args_all ⟨rfl, rfl, trivial⟩) (fun F w a ha hs => ?_) (fun v => trivial)
  unfold m_i_EqualHistories at hm
  refine wp_seq ?_
  refine wp_region_lit ?_
  refine seq_op ha hs rfl (opT_box (u := .agg #[.int .i64 p0a.1, va0]) (l := [.int .i64 p0a.1, va0]) rfl rfl rfl) (List.Perm.refl _) rfl ?_
  rintro _ aq1 wq1 ⟨g1, rfl⟩ haq1 (hsq1 : St I w0 wq1 [Ch.blk g1 [.int .i64 p0a.1, va0] 71, F])
  clear ha hs a w
  refine seq_op haq1 hsq1 rfl (opT_box (u := .agg #[.int .i64 p1b.1, va1]) (l := [.int .i64 p1b.1, va1]) rfl rfl rfl) (List.Perm.refl _) rfl ?_
  rintro _ aq2 wq2 ⟨g2, rfl⟩ haq2 (hsq2 : St I w0 wq2 [Ch.blk g2 [.int .i64 p1b.1, va1] 71, Ch.blk g1 [.int .i64 p0a.1, va0] 71, F])
  clear haq1 hsq1 aq1 wq1
  refine seq_op0 haq2 hsq2 (opT_assign (v := .bool false) rfl rfl) rfl rfl ?_
  rintro u aq3 wq3 hf haq3 hsq3
  obtain rfl := Eq.symm hf
  clear haq2 hsq2 aq2 wq2
  refine wpList_nil ?_
  replace haq3 := haq3.pick' (L' := [(2, .pointer (some ⟨g1, 0, none⟩)), (3, .pointer (some ⟨g2, 0, none⟩))]) ⟨rfl, rfl, trivial⟩
  refine nrm ?_
  refine wp_seq ?_
  refine wp_region_lit ?_
  refine seq_op0 haq3 hsq3 (opT_field_addr (g := g1) (b := 0) tf71_0 rfl rfl) rfl rfl ?_
  rintro u aq4 wq4 hf haq4 hsq4
  obtain rfl := Eq.symm hf
  clear haq3 hsq3 aq3 wq3
  refine seq_op haq4 hsq4 rfl (opT_load_blk (g := g1) (off := 0) (E := 71) (l := [.int .i64 p0a.1, va0]) (d := [.int .i64 p0a.1]) (u := .int .i64 p0a.1) ti3 rfl rfl rfl rfl rfl rfl) (perm_front (i := 1) rfl) rfl ?_
  rintro u aq5 wq5 hf haq5 (hsq5 : St I w0 wq5 [Ch.blk g1 [.int .i64 p0a.1, va0] 71, Ch.blk g2 [.int .i64 p1b.1, va1] 71, F])
  obtain rfl := Eq.symm hf
  clear haq4 hsq4 aq4 wq4
  refine seq_op0 haq5 hsq5 (opT_field_addr (g := g2) (b := 0) tf71_0 rfl rfl) rfl rfl ?_
  rintro u aq6 wq6 hf haq6 hsq6
  obtain rfl := Eq.symm hf
  clear haq5 hsq5 aq5 wq5
  refine seq_op haq6 hsq6 rfl (opT_load_blk (g := g2) (off := 0) (E := 71) (l := [.int .i64 p1b.1, va1]) (d := [.int .i64 p1b.1]) (u := .int .i64 p1b.1) ti3 rfl rfl rfl rfl rfl rfl) (perm_front (i := 1) rfl) rfl ?_
  rintro u aq7 wq7 hf haq7 (hsq7 : St I w0 wq7 [Ch.blk g2 [.int .i64 p1b.1, va1] 71, Ch.blk g1 [.int .i64 p0a.1, va0] 71, F])
  obtain rfl := Eq.symm hf
  clear haq6 hsq6 aq6 wq6
  refine seq_op0 haq7 hsq7 (opT_cmp (k := .i64) (m := p0a.1) (n := p1b.1) (c := p0a.1 == p1b.1) rfl rfl rfl rfl rfl) rfl rfl ?_
  rintro u aq8 wq8 hf haq8 hsq8
  obtain rfl := Eq.symm hf
  clear haq7 hsq7 aq7 wq7
  refine seq_op0 haq8 hsq8 (opT_move (v := .bool (p0a.1 == p1b.1)) rfl rfl) rfl rfl ?_
  rintro u aq9 wq9 hf haq9 hsq9
  obtain rfl := Eq.symm hf
  clear haq8 hsq8 aq8 wq8
  rcases two (p0a.1 == p1b.1) with hb1 | hb1
  · replace hm := ifFe hb1 hm
    refine seq_skip (g := 5) (d := 10) (want := true) (b := p0a.1 == p1b.1) haq9 hsq9 rfl rfl rfl hb1 rfl ?_
    intro aq10 haq10
    refine seq_skip (g := 5) (d := 10) (want := true) (b := p0a.1 == p1b.1) haq10 hsq9 rfl rfl rfl hb1 rfl ?_
    intro aq11 haq11
    refine seq_skip (g := 5) (d := 10) (want := true) (b := p0a.1 == p1b.1) haq11 hsq9 rfl rfl rfl hb1 rfl ?_
    intro aq12 haq12
    refine seq_skip (g := 5) (d := 10) (want := true) (b := p0a.1 == p1b.1) haq12 hsq9 rfl rfl rfl hb1 rfl ?_
    intro aq13 haq13
    refine seq_skip (g := 5) (d := 10) (want := true) (b := p0a.1 == p1b.1) haq13 hsq9 rfl rfl rfl hb1 rfl ?_
    intro aq14 haq14
    refine seq_op0 haq14 hsq9 (opT_pick (b := p0a.1 == p1b.1) (v := .bool false) rfl rfl (ifF hb1)) rfl rfl ?_
    rintro u aq15 wq15 hf haq15 hsq15
    obtain rfl := Eq.symm hf
    clear haq14 hsq9 aq14 wq9
    refine seq_op0 haq15 hsq15 (opT_assign (v := .bool false) rfl rfl) rfl rfl ?_
    rintro u aq16 wq16 hf haq16 hsq16
    obtain rfl := Eq.symm hf
    clear haq15 hsq15 aq15 wq15
    refine wpList_nil ?_
    replace haq16 := haq16.pick' (L' := [(4, .bool false)]) ⟨rfl, trivial⟩
    refine nrm ?_
    refine wp_ret ?_
    obtain rfl := Option.some.inj hm
    exact ret_1 haq16 rfl (res_tmp haq16 rfl) ⟨_, rfl, rfl, _, Hp.le.rfl, St.sel (hsq16) 3 [2] rfl rfl⟩
  · replace hm := ifTe hb1 hm
    refine seq_op_g0 (g := 5) (d := 10) (want := true) (b := p0a.1 == p1b.1) haq9 hsq9 rfl rfl rfl hb1 (opT_field_addr (g := g1) (b := 0) tf71_1 rfl rfl) rfl ?_
    rintro u aq17 wq17 hf haq17 hsq17
    obtain rfl := Eq.symm hf
    clear haq9 hsq9 aq9 wq9
    refine seq_op_g (g := 5) (d := 10) (want := true) (b := p0a.1 == p1b.1) haq17 hsq17 rfl rfl rfl hb1 (opT_load_blk (g := g1) (off := 1) (E := 71) (l := [.int .i64 p0a.1, va0]) (d := [va0]) (u := va0) ti69 rfl rfl rfl rfl rfl rfl) (perm_front (i := 1) rfl) rfl ?_
    rintro u aq18 wq18 hf haq18 (hsq18 : St I w0 wq18 [Ch.blk g1 [.int .i64 p0a.1, va0] 71, Ch.blk g2 [.int .i64 p1b.1, va1] 71, F])
    obtain rfl := Eq.symm hf
    clear haq17 hsq17 aq17 wq17
    refine seq_op_g0 (g := 5) (d := 10) (want := true) (b := p0a.1 == p1b.1) haq18 hsq18 rfl rfl rfl hb1 (opT_field_addr (g := g2) (b := 0) tf71_1 rfl rfl) rfl ?_
    rintro u aq19 wq19 hf haq19 hsq19
    obtain rfl := Eq.symm hf
    clear haq18 hsq18 aq18 wq18
    refine seq_op_g (g := 5) (d := 10) (want := true) (b := p0a.1 == p1b.1) haq19 hsq19 rfl rfl rfl hb1 (opT_load_blk (g := g2) (off := 1) (E := 71) (l := [.int .i64 p1b.1, va1]) (d := [va1]) (u := va1) ti69 rfl rfl rfl rfl rfl rfl) (perm_front (i := 1) rfl) rfl ?_
    rintro u aq20 wq20 hf haq20 (hsq20 : St I w0 wq20 [Ch.blk g2 [.int .i64 p1b.1, va1] 71, Ch.blk g1 [.int .i64 p0a.1, va0] 71, F])
    obtain rfl := Eq.symm hf
    clear haq19 hsq19 aq19 wq19
    obtain ⟨r1, e1, hm⟩ := bind_some hm
    refine seq_op_g0 (g := 5) (d := 10) (want := true) (b := p0a.1 == p1b.1) haq20 hsq20 rfl rfl rfl hb1 (opT_call (args := #[va0, va1, .func (.func 138) #[] #[]]) (first := #[]) (captured := #[]) en137 rfl rfl rfl (c_g_slices_EqualFunc_S_Graph_S_Graph_Graph_Graph p0a.2 p1b.2 (fun a0 a1 => m_i_EqualGraphs a0 a1) _ e1 va0 va1 (.func (.func 138) #[] #[]) ra0 ra1 ⟨isFn, fun J1 hJ1 b1_0 b1_1 r hm k1_0 k1_1 k1_2 k1_3 l1_0 l1_1 l1_2 l1_3 => ⟨138, #[], #[], rfl, en138, c_i_EqualGraphs b1_0 b1_1 _ hm k1_0 k1_1 k1_2 k1_3 l1_0 l1_1 l1_2 l1_3⟩⟩)) rfl ?_
    rintro u aq21 wq21 hf haq21 hsq21
    obtain rfl := Eq.symm hf
    clear haq20 hsq20 aq20 wq20
    refine seq_op0 haq21 hsq21 (opT_pick (b := p0a.1 == p1b.1) (v := .bool r1) rfl rfl (ifT hb1)) rfl rfl ?_
    rintro u aq22 wq22 hf haq22 hsq22
    obtain rfl := Eq.symm hf
    clear haq21 hsq21 aq21 wq21
    refine seq_op0 haq22 hsq22 (opT_assign (v := .bool r1) rfl rfl) rfl rfl ?_
    rintro u aq23 wq23 hf haq23 hsq23
    obtain rfl := Eq.symm hf
    clear haq22 hsq22 aq22 wq22
    refine wpList_nil ?_
    replace haq23 := haq23.pick' (L' := [(4, .bool r1)]) ⟨rfl, trivial⟩
    refine nrm ?_
    refine wp_ret ?_
    obtain rfl := Option.some.inj hm
    exact ret_1 haq23 rfl (res_tmp haq23 rfl) ⟨_, rfl, rfl, _, Hp.le.rfl, St.sel (hsq23) 3 [2] rfl rfl⟩
end Go.Proofs.Ytcihbmdppgpmjaa.D
