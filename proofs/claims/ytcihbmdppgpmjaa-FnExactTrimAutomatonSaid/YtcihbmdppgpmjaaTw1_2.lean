/- Printed by dec.py: models of functions and the walks that show them. -/
import Derived.Test.YtcihbmdppgpmjaaTw0_0
import Derived.Test.YtcihbmdppgpmjaaTw0_1
import Derived.Test.YtcihbmdppgpmjaaTw0_3
set_option linter.unusedVariables false
set_option linter.unusedSimpArgs false
set_option linter.unnecessarySimpa false
set_option maxRecDepth 100000
namespace Go.Proofs.Ytcihbmdppgpmjaa.D
open Go.RowKit
set_option maxHeartbeats 8000000 in
theorem c_i_IsValidAutomaton (p0a : Int × (List Bool) × (List (List Int))) (r : Bool) (hm : m_i_IsValidAutomaton p0a = some r) {I : Hp} {w0 : World} (va0 : Value) (va1 : Value) (ra0 : (rSlice 4 rBool).rd I [va0] p0a.2.1) (ra1 : (rSlice 34 (rSlice 3 rInt)).rd I [va1] p0a.2.2) : Con Try.prog 51 #[.agg #[.int .i64 p0a.1, va0, va1]] I w0 [] (fun v => v = .bool r) (fun v => []) := by
  refine con_of_wp (n := 52) [(0, .agg #[.int .i64 p0a.1, va0, va1])] Try.func51 rfl rfl (Nat.le_of_ble_eq_true rfl) (args_all ⟨rfl, trivial⟩) (fun F w a ha hs => ?_) (fun v => trivial)
  unfold m_i_IsValidAutomaton at hm
  refine wp_seq ?_
  refine wp_region_lit ?_
  refine seq_op ha hs rfl (opT_box (u := .agg #[.int .i64 p0a.1, va0, va1]) (l := [.int .i64 p0a.1, va0, va1]) rfl rfl rfl) (List.Perm.refl _) rfl ?_
  rintro _ aq1 wq1 ⟨g1, rfl⟩ haq1 (hsq1 : St I w0 wq1 [Ch.blk g1 [.int .i64 p0a.1, va0, va1] 27, F])
  clear ha hs a w
  refine seq_op0 haq1 hsq1 (opT_assign (v := .bool false) rfl rfl) rfl rfl ?_
  rintro u aq2 wq2 hf haq2 hsq2
  obtain rfl := Eq.symm hf
  clear haq1 hsq1 aq1 wq1
  refine wpList_nil ?_
  replace haq2 := haq2.pick' (L' := [(1, .pointer (some ⟨g1, 0, none⟩))]) ⟨rfl, trivial⟩
  refine nrm ?_
  refine wp_seq ?_
  refine wp_region_lit ?_
  refine seq_op0 haq2 hsq2 (opT_field_addr (g := g1) (b := 0) tf27_1 rfl rfl) rfl rfl ?_
  rintro u aq3 wq3 hf haq3 hsq3
  obtain rfl := Eq.symm hf
  clear haq2 hsq2 aq2 wq2
  refine seq_op haq3 hsq3 rfl (opT_load_blk (g := g1) (off := 1) (E := 27) (l := [.int .i64 p0a.1, va0, va1]) (d := [va0]) (u := va0) ti22 rfl rfl rfl rfl rfl rfl) (perm_front (i := 0) rfl) rfl ?_
  rintro u aq4 wq4 hf haq4 (hsq4 : St I w0 wq4 [Ch.blk g1 [.int .i64 p0a.1, va0, va1] 27, F])
  obtain rfl := Eq.symm hf
  clear haq3 hsq3 aq3 wq3
  refine seq_op0 haq4 hsq4 (opT_len_hd (v := va0) (n := p0a.2.1.length) (Hd.of_rd ra0) Try.underlying22 rfl rfl) rfl rfl ?_
  rintro u aq5 wq5 hf haq5 hsq5
  obtain rfl := Eq.symm hf
  clear haq4 hsq4 aq4 wq4
  refine seq_op0 haq5 hsq5 (opT_assign (v := .int .i64 (p0a.2.1.length : Int)) rfl rfl) rfl rfl ?_
  rintro u aq6 wq6 hf haq6 hsq6
  obtain rfl := Eq.symm hf
  clear haq5 hsq5 aq5 wq5
  refine wpList_nil ?_
  replace haq6 := haq6.pick' (L' := [(1, .pointer (some ⟨g1, 0, none⟩)), (3, .int .i64 (p0a.2.1.length : Int))]) ⟨rfl, rfl, trivial⟩
  refine nrm ?_
  refine wp_seq ?_
  refine wp_seq ?_
  refine wp_region_lit ?_
  refine seq_op0 haq6 hsq6 (opT_move (v := .int .i64 (p0a.2.1.length : Int)) rfl rfl) rfl rfl ?_
  rintro u aq7 wq7 hf haq7 hsq7
  obtain rfl := Eq.symm hf
  clear haq6 hsq6 aq6 wq6
  obtain ⟨r1, e1, hm⟩ := bind_some hm
  refine seq_op0 haq7 hsq7 (opT_call (args := #[.int .i64 (p0a.2.1.length : Int), .int .i64 1, .int .i64 12]) (first := #[]) (captured := #[]) en95 rfl rfl rfl (c_i_within (p0a.2.1.length : Int) 1 12 _ e1  )) rfl rfl ?_
  rintro u aq8 wq8 hf haq8 hsq8
  obtain rfl := Eq.symm hf
  clear haq7 hsq7 aq7 wq7
  refine seq_op0 haq8 hsq8 (opT_not (b := r1) rfl rfl) rfl rfl ?_
  rintro u aq9 wq9 hf haq9 hsq9
  obtain rfl := Eq.symm hf
  clear haq8 hsq8 aq8 wq8
  refine seq_op0 haq9 hsq9 (opT_move (v := .bool (!r1)) rfl rfl) rfl rfl ?_
  rintro u aq10 wq10 hf haq10 hsq10
  obtain rfl := Eq.symm hf
  clear haq9 hsq9 aq9 wq9
  rcases two (r1) with hb1 | hb1
  · replace hm := ifFe hb1 hm
    refine seq_skip (g := 3) (d := 14) (want := false) (b := !r1) haq10 hsq10 rfl rfl rfl (notT hb1) rfl ?_
    intro aq11 haq11
    refine seq_skip (g := 3) (d := 14) (want := false) (b := !r1) haq11 hsq10 rfl rfl rfl (notT hb1) rfl ?_
    intro aq12 haq12
    refine seq_skip (g := 3) (d := 14) (want := false) (b := !r1) haq12 hsq10 rfl rfl rfl (notT hb1) rfl ?_
    intro aq13 haq13
    refine seq_skip (g := 3) (d := 14) (want := false) (b := !r1) haq13 hsq10 rfl rfl rfl (notT hb1) rfl ?_
    intro aq14 haq14
    refine seq_skip (g := 3) (d := 14) (want := false) (b := !r1) haq14 hsq10 rfl rfl rfl (notT hb1) rfl ?_
    intro aq15 haq15
    refine seq_skip (g := 3) (d := 14) (want := false) (b := !r1) haq15 hsq10 rfl rfl rfl (notT hb1) rfl ?_
    intro aq16 haq16
    refine seq_op0 haq16 hsq10 (opT_pick (b := !r1) (v := .bool true) rfl rfl (ifT (notT hb1))) rfl rfl ?_
    rintro u aq17 wq17 hf haq17 hsq17
    obtain rfl := Eq.symm hf
    clear haq16 hsq10 aq16 wq10
    refine seq_op0 haq17 hsq17 (opT_move (v := .bool true) rfl rfl) rfl rfl ?_
    rintro u aq18 wq18 hf haq18 hsq18
    obtain rfl := Eq.symm hf
    clear haq17 hsq17 aq17 wq17
    refine seq_skip (g := 11) (d := 22) (want := false) (b := true) haq18 hsq18 rfl rfl rfl rfl rfl ?_
    intro aq19 haq19
    refine seq_skip (g := 11) (d := 22) (want := false) (b := true) haq19 hsq18 rfl rfl rfl rfl rfl ?_
    intro aq20 haq20
    refine seq_skip (g := 11) (d := 22) (want := false) (b := true) haq20 hsq18 rfl rfl rfl rfl rfl ?_
    intro aq21 haq21
    refine seq_skip (g := 11) (d := 22) (want := false) (b := true) haq21 hsq18 rfl rfl rfl rfl rfl ?_
    intro aq22 haq22
    refine seq_skip (g := 11) (d := 22) (want := false) (b := true) haq22 hsq18 rfl rfl rfl rfl rfl ?_
    intro aq23 haq23
    refine seq_op0 haq23 hsq18 (opT_pick (b := true) (v := .bool true) rfl rfl (ifT rfl)) rfl rfl ?_
    rintro u aq24 wq24 hf haq24 hsq24
    obtain rfl := Eq.symm hf
    clear haq23 hsq18 aq23 wq18
    refine wpList_nil ?_
    replace haq24 := haq24.pick' (L' := [(1, .pointer (some ⟨g1, 0, none⟩)), (3, .int .i64 (p0a.2.1.length : Int)), (28, .bool true)]) ⟨rfl, rfl, rfl, trivial⟩
    refine nrm ?_
    refine cnd_true (b := true) haq24 rfl rfl rfl ?_
    refine wp_seq ?_
    refine wp_region_lit ?_
    refine seq_op0 haq24 hsq24 (opT_assign (v := .bool false) rfl rfl) rfl rfl ?_
    rintro u aq25 wq25 hf haq25 hsq25
    obtain rfl := Eq.symm hf
    clear haq24 hsq24 aq24 wq24
    refine wpList_nil ?_
    replace haq25 := haq25.pick' (L' := [(2, .bool false)]) ⟨rfl, trivial⟩
    refine nrm ?_
    refine wp_ret ?_
    refine thenR ?_
    obtain rfl := Option.some.inj hm
    exact ret_1 haq25 rfl (res_tmp haq25 rfl) ⟨_, rfl, rfl, _, Hp.le.rfl, St.sel (hsq25) 2 [1] rfl rfl⟩
  · replace hm := ifTe hb1 hm
    refine seq_op_g0 (g := 3) (d := 14) (want := false) (b := !r1) haq10 hsq10 rfl rfl rfl (notF hb1) (opT_field_addr (g := g1) (b := 0) tf27_0 rfl rfl) rfl ?_
    rintro u aq26 wq26 hf haq26 hsq26
    obtain rfl := Eq.symm hf
    clear haq10 hsq10 aq10 wq10
    refine seq_op_g (g := 3) (d := 14) (want := false) (b := !r1) haq26 hsq26 rfl rfl rfl (notF hb1) (opT_load_blk (g := g1) (off := 0) (E := 27) (l := [.int .i64 p0a.1, va0, va1]) (d := [.int .i64 p0a.1]) (u := .int .i64 p0a.1) ti3 rfl rfl rfl rfl rfl rfl) (perm_front (i := 0) rfl) rfl ?_
    rintro u aq27 wq27 hf haq27 (hsq27 : St I w0 wq27 [Ch.blk g1 [.int .i64 p0a.1, va0, va1] 27, F])
    obtain rfl := Eq.symm hf
    clear haq26 hsq26 aq26 wq26
    refine seq_op_g0 (g := 3) (d := 14) (want := false) (b := !r1) haq27 hsq27 rfl rfl rfl (notF hb1) (opT_move (v := .int .i64 (p0a.2.1.length : Int)) rfl rfl) rfl ?_
    rintro u aq28 wq28 hf haq28 hsq28
    obtain rfl := Eq.symm hf
    clear haq27 hsq27 aq27 wq27
    refine seq_op_g0 (g := 3) (d := 14) (want := false) (b := !r1) haq28 hsq28 rfl rfl rfl (notF hb1) (opT_sub (m := (p0a.2.1.length : Int)) (n := 1) rfl rfl rfl) rfl ?_
    rintro u aq29 wq29 hf haq29 hsq29
    obtain rfl := Eq.symm hf
    clear haq28 hsq28 aq28 wq28
    obtain ⟨r2, e2, hm⟩ := bind_some hm
    refine seq_op_g0 (g := 3) (d := 14) (want := false) (b := !r1) haq29 hsq29 rfl rfl rfl (notF hb1) (opT_call (args := #[.int .i64 p0a.1, .int .i64 0, .int .i64 (IntKind.i64.wrap ((p0a.2.1.length : Int) - 1))]) (first := #[]) (captured := #[]) en95 rfl rfl rfl (c_i_within p0a.1 0 (IntKind.i64.wrap ((p0a.2.1.length : Int) - 1)) _ e2  )) rfl ?_
    rintro u aq30 wq30 hf haq30 hsq30
    obtain rfl := Eq.symm hf
    clear haq29 hsq29 aq29 wq29
    refine seq_op_g0 (g := 3) (d := 14) (want := false) (b := !r1) haq30 hsq30 rfl rfl rfl (notF hb1) (opT_not (b := r2) rfl rfl) rfl ?_
    rintro u aq31 wq31 hf haq31 hsq31
    obtain rfl := Eq.symm hf
    clear haq30 hsq30 aq30 wq30
    refine seq_op0 haq31 hsq31 (opT_pick (b := !r1) (v := .bool (!r2)) rfl rfl (ifF (notF hb1))) rfl rfl ?_
    rintro u aq32 wq32 hf haq32 hsq32
    obtain rfl := Eq.symm hf
    clear haq31 hsq31 aq31 wq31
    refine seq_op0 haq32 hsq32 (opT_move (v := .bool (!r2)) rfl rfl) rfl rfl ?_
    rintro u aq33 wq33 hf haq33 hsq33
    obtain rfl := Eq.symm hf
    clear haq32 hsq32 aq32 wq32
    rcases two (r2) with hb2 | hb2
    · replace hm := ifFe hb2 hm
      refine seq_skip (g := 11) (d := 22) (want := false) (b := !r2) haq33 hsq33 rfl rfl rfl (notT hb2) rfl ?_
      intro aq34 haq34
      refine seq_skip (g := 11) (d := 22) (want := false) (b := !r2) haq34 hsq33 rfl rfl rfl (notT hb2) rfl ?_
      intro aq35 haq35
      refine seq_skip (g := 11) (d := 22) (want := false) (b := !r2) haq35 hsq33 rfl rfl rfl (notT hb2) rfl ?_
      intro aq36 haq36
      refine seq_skip (g := 11) (d := 22) (want := false) (b := !r2) haq36 hsq33 rfl rfl rfl (notT hb2) rfl ?_
      intro aq37 haq37
      refine seq_skip (g := 11) (d := 22) (want := false) (b := !r2) haq37 hsq33 rfl rfl rfl (notT hb2) rfl ?_
      intro aq38 haq38
      refine seq_op0 haq38 hsq33 (opT_pick (b := !r2) (v := .bool true) rfl rfl (ifT (notT hb2))) rfl rfl ?_
      rintro u aq39 wq39 hf haq39 hsq39
      obtain rfl := Eq.symm hf
      clear haq38 hsq33 aq38 wq33
      refine wpList_nil ?_
      replace haq39 := haq39.pick' (L' := [(1, .pointer (some ⟨g1, 0, none⟩)), (3, .int .i64 (p0a.2.1.length : Int)), (28, .bool true)]) ⟨rfl, rfl, rfl, trivial⟩
      refine nrm ?_
      refine cnd_true (b := true) haq39 rfl rfl rfl ?_
      refine wp_seq ?_
      refine wp_region_lit ?_
      refine seq_op0 haq39 hsq39 (opT_assign (v := .bool false) rfl rfl) rfl rfl ?_
      rintro u aq40 wq40 hf haq40 hsq40
      obtain rfl := Eq.symm hf
      clear haq39 hsq39 aq39 wq39
      refine wpList_nil ?_
      replace haq40 := haq40.pick' (L' := [(2, .bool false)]) ⟨rfl, trivial⟩
      refine nrm ?_
      refine wp_ret ?_
      refine thenR ?_
      obtain rfl := Option.some.inj hm
      exact ret_1 haq40 rfl (res_tmp haq40 rfl) ⟨_, rfl, rfl, _, Hp.le.rfl, St.sel (hsq40) 2 [1] rfl rfl⟩
    · replace hm := ifTe hb2 hm
      refine seq_op_g0 (g := 11) (d := 22) (want := false) (b := !r2) haq33 hsq33 rfl rfl rfl (notF hb2) (opT_field_addr (g := g1) (b := 0) tf27_2 rfl rfl) rfl ?_
      rintro u aq41 wq41 hf haq41 hsq41
      obtain rfl := Eq.symm hf
      clear haq33 hsq33 aq33 wq33
      refine seq_op_g (g := 11) (d := 22) (want := false) (b := !r2) haq41 hsq41 rfl rfl rfl (notF hb2) (opT_load_blk (g := g1) (off := 2) (E := 27) (l := [.int .i64 p0a.1, va0, va1]) (d := [va1]) (u := va1) ti23 rfl rfl rfl rfl rfl rfl) (perm_front (i := 0) rfl) rfl ?_
      rintro u aq42 wq42 hf haq42 (hsq42 : St I w0 wq42 [Ch.blk g1 [.int .i64 p0a.1, va0, va1] 27, F])
      obtain rfl := Eq.symm hf
      clear haq41 hsq41 aq41 wq41
      refine seq_op_g0 (g := 11) (d := 22) (want := false) (b := !r2) haq42 hsq42 rfl rfl rfl (notF hb2) (opT_len_hd (v := va1) (n := p0a.2.2.length) (Hd.of_rd ra1) Try.underlying23 rfl rfl) rfl ?_
      rintro u aq43 wq43 hf haq43 hsq43
      obtain rfl := Eq.symm hf
      clear haq42 hsq42 aq42 wq42
      refine seq_op_g0 (g := 11) (d := 22) (want := false) (b := !r2) haq43 hsq43 rfl rfl rfl (notF hb2) (opT_move (v := .int .i64 (p0a.2.1.length : Int)) rfl rfl) rfl ?_
      rintro u aq44 wq44 hf haq44 hsq44
      obtain rfl := Eq.symm hf
      clear haq43 hsq43 aq43 wq43
      refine seq_op_g0 (g := 11) (d := 22) (want := false) (b := !r2) haq44 hsq44 rfl rfl rfl (notF hb2) (opT_cmp (k := .i64) (m := (p0a.2.2.length : Int)) (n := (p0a.2.1.length : Int)) (c := (p0a.2.2.length : Int) != (p0a.2.1.length : Int)) rfl rfl rfl rfl rfl) rfl ?_
      rintro u aq45 wq45 hf haq45 hsq45
      obtain rfl := Eq.symm hf
      clear haq44 hsq44 aq44 wq44
      refine seq_op0 haq45 hsq45 (opT_pick (b := !r2) (v := .bool ((p0a.2.2.length : Int) != (p0a.2.1.length : Int))) rfl rfl (ifF (notF hb2))) rfl rfl ?_
      rintro u aq46 wq46 hf haq46 hsq46
      obtain rfl := Eq.symm hf
      clear haq45 hsq45 aq45 wq45
      refine wpList_nil ?_
      replace haq46 := haq46.pick' (L' := [(1, .pointer (some ⟨g1, 0, none⟩)), (3, .int .i64 (p0a.2.1.length : Int)), (28, .bool ((p0a.2.2.length : Int) != (p0a.2.1.length : Int)))]) ⟨rfl, rfl, rfl, trivial⟩
      refine nrm ?_
      rcases two ((p0a.2.2.length : Int) != (p0a.2.1.length : Int)) with hb3 | hb3
      · replace hm := ifFe hb3 hm
        refine cnd_false (b := (p0a.2.2.length : Int) != (p0a.2.1.length : Int)) haq46 rfl rfl hb3 ?_
        refine wp_skip ?_
        refine nrm ?_
        refine wp_seq ?_
        refine wp_seq ?_
        refine wp_region_lit ?_
        refine seq_op0 haq46 hsq46 (opT_field_addr (g := g1) (b := 0) tf27_2 rfl rfl) rfl rfl ?_
        rintro u aq47 wq47 hf haq47 hsq47
        obtain rfl := Eq.symm hf
        clear haq46 hsq46 aq46 wq46
        refine seq_op haq47 hsq47 rfl (opT_load_blk (g := g1) (off := 2) (E := 27) (l := [.int .i64 p0a.1, va0, va1]) (d := [va1]) (u := va1) ti23 rfl rfl rfl rfl rfl rfl) (perm_front (i := 0) rfl) rfl ?_
        rintro u aq48 wq48 hf haq48 (hsq48 : St I w0 wq48 [Ch.blk g1 [.int .i64 p0a.1, va0, va1] 27, F])
        obtain rfl := Eq.symm hf
        clear haq47 hsq47 aq47 wq47
        refine seq_op0 haq48 hsq48 (opT_len_hd (v := va1) (n := p0a.2.2.length) (Hd.of_rd ra1) Try.underlying23 rfl rfl) rfl rfl ?_
        rintro u aq49 wq49 hf haq49 hsq49
        obtain rfl := Eq.symm hf
        clear haq48 hsq48 aq48 wq48
        refine seq_op0 haq49 hsq49 (opT_move (v := .int .i64 0) rfl rfl) rfl rfl ?_
        rintro u aq50 wq50 hf haq50 hsq50
        obtain rfl := Eq.symm hf
        clear haq49 hsq49 aq49 wq49
        refine wpList_nil ?_
        replace haq50 := haq50.pick' (L' := [(3, .int .i64 (p0a.2.1.length : Int)), (30, va1), (31, .int .i64 (p0a.2.2.length : Int)), (32, .int .i64 0)]) ⟨rfl, rfl, rfl, rfl, trivial⟩
        refine nrm ?_
        obtain ⟨o5, hl3, hc3⟩ := bindL_some hm
        refine wp_cut (fun a w => ∃ s12 : Int, o5 = .brk s12 ∧ Agr 52 a [] ∧ St I w0 w [F]) ?_ ?_
        · refine wp_block (wp_loopM (R := Bool) (S := Int) (fun s11 a w => Agr 52 a [(3, .int .i64 (p0a.2.1.length : Int)), (30, va1), (31, .int .i64 (p0a.2.2.length : Int)), (32, .int .i64 s11)] ∧ St I w0 w [F]) hl3 ?_ ?_)
          · exact ⟨haq50.pick' ⟨rfl, rfl, rfl, rfl, trivial⟩, St.sel hsq50 2 [1] rfl rfl⟩
          · rintro s11 o6 hm hf3 aq153 wq153 ⟨haq153, hsq153⟩
            unfold m_i_IsValidAutomaton_l0 at hm
            refine wp_seq ?_
            refine wp_region_lit ?_
            refine seq_op0 haq153 hsq153 (opT_cmp (k := .i64) (m := s11) (n := (p0a.2.2.length : Int)) (c := decide (s11 < (p0a.2.2.length : Int))) rfl rfl rfl rfl rfl) rfl rfl ?_
            rintro u aq154 wq154 hf haq154 hsq154
            obtain rfl := Eq.symm hf
            clear haq153 hsq153 aq153 wq153
            refine wpList_nil ?_
            replace haq154 := haq154.pick' (L' := [(3, .int .i64 (p0a.2.1.length : Int)), (30, va1), (31, .int .i64 (p0a.2.2.length : Int)), (32, .int .i64 s11), (33, .bool (decide (s11 < (p0a.2.2.length : Int))))]) ⟨rfl, rfl, rfl, rfl, rfl, trivial⟩
            refine nrm ?_
            refine wp_seq ?_
            rcases two (decide (s11 < (p0a.2.2.length : Int))) with hb20 | hb20
            · replace hm := ifFe hb20 hm
              refine cnd_false (b := decide (s11 < (p0a.2.2.length : Int))) haq154 rfl rfl hb20 ?_
              refine wp_exit ?_
              refine thenX ?_
              refine thenX ?_
              refine ex_in ?_
              refine nrm ?_
              exact ⟨_, loopBrk hm hf3, ⟨haq154.pick' trivial, St.sel hsq154 1 [0] rfl rfl⟩⟩
            · replace hm := ifTe hb20 hm
              refine cnd_true (b := decide (s11 < (p0a.2.2.length : Int))) haq154 rfl rfl hb20 ?_
              refine wp_skip ?_
              refine nrm ?_
              refine wp_seq ?_
              refine wp_block ?_
              refine wp_seq ?_
              refine wp_region_lit ?_
              obtain ⟨x9, e17, hm⟩ := bind_some hm
              refine seq_op0 haq154 hsq154 (opT_index_hd (xs := p0a.2.2) (i := s11) (n := 1) (Hd.of_rd ra1) Try.underlying23 ti34 rfl rfl rfl (getI_in e17)) rfl rfl ?_
              rintro u aq155 wq155 hf haq155 hsq155
              obtain rfl := Eq.symm hf
              clear haq154 hsq154 aq154 wq154
              refine seq_op0 haq155 hsq155 (opT_load_el (S := rSlice 3 rInt) (xs := p0a.2.2) (a := x9) (i := s11) (k := 1) (off := 0) (f := fun (x : List Int) => x) ra1 e17 Fld.self ti34 rfl rfl rfl rfl rfl) rfl rfl ?_
              rintro v3 aq156 wq156 hf haq156 hsq156
              have r11 := lds_sl hf
              clear hf
              clear haq155 hsq155 aq155 wq155
              refine seq_op0 haq156 hsq156 (opT_assign (v := v3) rfl rfl) rfl rfl ?_
              rintro u aq157 wq157 hf haq157 hsq157
              obtain rfl := Eq.symm hf
              clear haq156 hsq156 aq156 wq156
              refine wpList_nil ?_
              replace haq157 := haq157.pick' (L' := [(3, .int .i64 (p0a.2.1.length : Int)), (5, v3), (30, va1), (31, .int .i64 (p0a.2.2.length : Int)), (32, .int .i64 s11)]) ⟨rfl, rfl, rfl, rfl, rfl, trivial⟩
              refine nrm ?_
              refine wp_seq ?_
              refine wp_seq ?_
              refine wp_region_lit ?_
              refine seq_op0 haq157 hsq157 (opT_move (v := v3) rfl rfl) rfl rfl ?_
              rintro u aq158 wq158 hf haq158 hsq158
              obtain rfl := Eq.symm hf
              clear haq157 hsq157 aq157 wq157
              refine seq_op0 haq158 hsq158 (opT_len_hd (v := v3) (n := x9.length) (Hd.of_rd r11) Try.underlying34 rfl rfl) rfl rfl ?_
              rintro u aq159 wq159 hf haq159 hsq159
              obtain rfl := Eq.symm hf
              clear haq158 hsq158 aq158 wq158
              refine seq_op0 haq159 hsq159 (opT_move (v := .int .i64 0) rfl rfl) rfl rfl ?_
              rintro u aq160 wq160 hf haq160 hsq160
              obtain rfl := Eq.symm hf
              clear haq159 hsq159 aq159 wq159
              refine wpList_nil ?_
              replace haq160 := haq160.pick' (L' := [(3, .int .i64 (p0a.2.1.length : Int)), (5, v3), (30, va1), (31, .int .i64 (p0a.2.2.length : Int)), (32, .int .i64 s11), (36, v3), (37, .int .i64 (x9.length : Int)), (38, .int .i64 0)]) ⟨rfl, rfl, rfl, rfl, rfl, rfl, rfl, rfl, trivial⟩
              refine nrm ?_
              obtain ⟨o7, hl4, hc4⟩ := bindL_some hm
              refine wp_cut (fun a w => ∃ s16 : Int, o7 = .brk s16 ∧ Agr 52 a [(3, .int .i64 (p0a.2.1.length : Int)), (5, v3), (30, va1), (31, .int .i64 (p0a.2.2.length : Int)), (32, .int .i64 s11)] ∧ St I w0 w [F]) ?_ ?_
              · refine wp_block (wp_loopM (R := Bool) (S := Int) (fun s15 a w => Agr 52 a [(3, .int .i64 (p0a.2.1.length : Int)), (5, v3), (30, va1), (31, .int .i64 (p0a.2.2.length : Int)), (32, .int .i64 s11), (36, v3), (37, .int .i64 (x9.length : Int)), (38, .int .i64 s15)] ∧ St I w0 w [F]) hl4 ?_ ?_)
                · exact ⟨haq160.pick' ⟨rfl, rfl, rfl, rfl, rfl, rfl, rfl, rfl, trivial⟩, St.sel hsq160 1 [0] rfl rfl⟩
                · rintro s15 o8 hm hf4 aq185 wq185 ⟨haq185, hsq185⟩
                  unfold m_i_IsValidAutomaton_l1 at hm
                  refine wp_seq ?_
                  refine wp_region_lit ?_
                  refine seq_op0 haq185 hsq185 (opT_cmp (k := .i64) (m := s15) (n := (x9.length : Int)) (c := decide (s15 < (x9.length : Int))) rfl rfl rfl rfl rfl) rfl rfl ?_
                  rintro u aq186 wq186 hf haq186 hsq186
                  obtain rfl := Eq.symm hf
                  clear haq185 hsq185 aq185 wq185
                  refine wpList_nil ?_
                  replace haq186 := haq186.pick' (L' := [(3, .int .i64 (p0a.2.1.length : Int)), (5, v3), (30, va1), (31, .int .i64 (p0a.2.2.length : Int)), (32, .int .i64 s11), (36, v3), (37, .int .i64 (x9.length : Int)), (38, .int .i64 s15), (39, .bool (decide (s15 < (x9.length : Int))))]) ⟨rfl, rfl, rfl, rfl, rfl, rfl, rfl, rfl, rfl, trivial⟩
                  refine nrm ?_
                  refine wp_seq ?_
                  rcases two (decide (s15 < (x9.length : Int))) with hb25 | hb25
                  · replace hm := ifFe hb25 hm
                    refine cnd_false (b := decide (s15 < (x9.length : Int))) haq186 rfl rfl hb25 ?_
                    refine wp_exit ?_
                    refine thenX ?_
                    refine thenX ?_
                    refine ex_in ?_
                    refine nrm ?_
                    exact ⟨_, loopBrk hm hf4, ⟨haq186.pick' ⟨rfl, rfl, rfl, rfl, rfl, trivial⟩, St.sel hsq186 1 [0] rfl rfl⟩⟩
                  · replace hm := ifTe hb25 hm
                    refine cnd_true (b := decide (s15 < (x9.length : Int))) haq186 rfl rfl hb25 ?_
                    refine wp_skip ?_
                    refine nrm ?_
                    refine wp_seq ?_
                    refine wp_block ?_
                    refine wp_seq ?_
                    refine wp_region_lit ?_
                    obtain ⟨x12, e22, hm⟩ := bind_some hm
                    refine seq_op0 haq186 hsq186 (opT_index_hd (xs := x9) (i := s15) (n := 1) (Hd.of_rd r11) Try.underlying34 ti3 rfl rfl rfl (getI_in e22)) rfl rfl ?_
                    rintro u aq187 wq187 hf haq187 hsq187
                    obtain rfl := Eq.symm hf
                    clear haq186 hsq186 aq186 wq186
                    refine seq_op0 haq187 hsq187 (opT_load_el (S := rInt) (xs := x9) (a := x12) (i := s15) (k := 1) (off := 0) (f := fun (x : Int) => x) r11 e22 Fld.self ti3 rfl rfl rfl rfl rfl) rfl rfl ?_
                    rintro u aq188 wq188 hf haq188 hsq188
                    obtain rfl := lds_one hf
                    clear haq187 hsq187 aq187 wq187
                    refine seq_op0 haq188 hsq188 (opT_assign (v := .int .i64 x12) rfl rfl) rfl rfl ?_
                    rintro u aq189 wq189 hf haq189 hsq189
                    obtain rfl := Eq.symm hf
                    clear haq188 hsq188 aq188 wq188
                    refine wpList_nil ?_
                    replace haq189 := haq189.pick' (L' := [(3, .int .i64 (p0a.2.1.length : Int)), (5, v3), (7, .int .i64 x12), (30, va1), (31, .int .i64 (p0a.2.2.length : Int)), (32, .int .i64 s11), (36, v3), (37, .int .i64 (x9.length : Int)), (38, .int .i64 s15)]) ⟨rfl, rfl, rfl, rfl, rfl, rfl, rfl, rfl, rfl, trivial⟩
                    refine nrm ?_
                    refine wp_seq ?_
                    refine wp_region_lit ?_
                    refine seq_op0 haq189 hsq189 (opT_move (v := .int .i64 x12) rfl rfl) rfl rfl ?_
                    rintro u aq190 wq190 hf haq190 hsq190
                    obtain rfl := Eq.symm hf
                    clear haq189 hsq189 aq189 wq189
                    refine seq_op0 haq190 hsq190 (opT_move (v := .int .i64 (p0a.2.1.length : Int)) rfl rfl) rfl rfl ?_
                    rintro u aq191 wq191 hf haq191 hsq191
                    obtain rfl := Eq.symm hf
                    clear haq190 hsq190 aq190 wq190
                    refine seq_op0 haq191 hsq191 (opT_sub (m := (p0a.2.1.length : Int)) (n := 1) rfl rfl rfl) rfl rfl ?_
                    rintro u aq192 wq192 hf haq192 hsq192
                    obtain rfl := Eq.symm hf
                    clear haq191 hsq191 aq191 wq191
                    obtain ⟨r14, e23, hm⟩ := bind_some hm
                    refine seq_op0 haq192 hsq192 (opT_call (args := #[.int .i64 x12, .int .i64 (-1), .int .i64 (IntKind.i64.wrap ((p0a.2.1.length : Int) - 1))]) (first := #[]) (captured := #[]) en95 rfl rfl rfl (c_i_within x12 (-1) (IntKind.i64.wrap ((p0a.2.1.length : Int) - 1)) _ e23  )) rfl rfl ?_
                    rintro u aq193 wq193 hf haq193 hsq193
                    obtain rfl := Eq.symm hf
                    clear haq192 hsq192 aq192 wq192
                    refine seq_op0 haq193 hsq193 (opT_not (b := r14) rfl rfl) rfl rfl ?_
                    rintro u aq194 wq194 hf haq194 hsq194
                    obtain rfl := Eq.symm hf
                    clear haq193 hsq193 aq193 wq193
                    refine wpList_nil ?_
                    replace haq194 := haq194.pick' (L' := [(3, .int .i64 (p0a.2.1.length : Int)), (5, v3), (30, va1), (31, .int .i64 (p0a.2.2.length : Int)), (32, .int .i64 s11), (36, v3), (37, .int .i64 (x9.length : Int)), (38, .int .i64 s15), (46, .bool (!r14))]) ⟨rfl, rfl, rfl, rfl, rfl, rfl, rfl, rfl, rfl, trivial⟩
                    refine nrm ?_
                    rcases two (r14) with hb26 | hb26
                    · replace hm := ifFe hb26 hm
                      refine cnd_true (b := !r14) haq194 rfl rfl (notT hb26) ?_
                      refine wp_seq ?_
                      refine wp_region_lit ?_
                      refine seq_op0 haq194 hsq194 (opT_assign (v := .bool false) rfl rfl) rfl rfl ?_
                      rintro u aq195 wq195 hf haq195 hsq195
                      obtain rfl := Eq.symm hf
                      clear haq194 hsq194 aq194 wq194
                      refine wpList_nil ?_
                      replace haq195 := haq195.pick' (L' := [(2, .bool false)]) ⟨rfl, trivial⟩
                      refine nrm ?_
                      refine wp_ret ?_
                      refine blkR ?_
                      refine thenR ?_
                      refine thenR ?_
                      refine blkR ?_
                      refine thenR ?_
                      refine thenR ?_
                      refine blkR ?_
                      refine thenR ?_
                      refine thenR ?_
                      refine blkR ?_
                      refine thenR ?_
                      refine thenR ?_
                      replace hm := loopRet hm hf4 hc4
                      replace hm := loopRet hm hf3 hc3
                      obtain rfl := Option.some.inj hm
                      exact ret_1 haq195 rfl (res_tmp haq195 rfl) ⟨_, rfl, rfl, _, Hp.le.rfl, St.sel (hsq195) 1 [0] rfl rfl⟩
                    · replace hm := ifTe hb26 hm
                      refine cnd_false (b := !r14) haq194 rfl rfl (notF hb26) ?_
                      refine wp_skip ?_
                      refine nrmB ?_
                      refine nrm ?_
                      refine wp_region_lit ?_
                      refine seq_op0 haq194 hsq194 (opT_add (m := s15) (n := 1) rfl rfl rfl) rfl rfl ?_
                      rintro u aq196 wq196 hf haq196 hsq196
                      obtain rfl := Eq.symm hf
                      clear haq194 hsq194 aq194 wq194
                      refine seq_op0 haq196 hsq196 (opT_move (v := .int .i64 (IntKind.i64.wrap (s15 + 1))) rfl rfl) rfl rfl ?_
                      rintro u aq197 wq197 hf haq197 hsq197
                      obtain rfl := Eq.symm hf
                      clear haq196 hsq196 aq196 wq196
                      refine wpList_nil ?_
                      replace haq197 := haq197.pick' (L' := [(3, .int .i64 (p0a.2.1.length : Int)), (5, v3), (30, va1), (31, .int .i64 (p0a.2.2.length : Int)), (32, .int .i64 s11), (36, v3), (37, .int .i64 (x9.length : Int)), (38, .int .i64 (IntKind.i64.wrap (s15 + 1)))]) ⟨rfl, rfl, rfl, rfl, rfl, rfl, rfl, rfl, trivial⟩
                      refine nrm ?_
                      exact ⟨_, (Option.some.inj hm).symm, ⟨haq197.pick' ⟨rfl, rfl, rfl, rfl, rfl, rfl, rfl, rfl, trivial⟩, St.sel hsq197 1 [0] rfl rfl⟩⟩
              · rintro aq198 wq198 ⟨s16, ho3, haq198, hsq198⟩
                replace hm := loopOut ho3 hc4
                clear ho3 hc4 hl4
                refine nrm ?_
                refine wp_seq ?_
                refine wp_region_lit ?_
                refine seq_op0 haq198 hsq198 (opT_move (v := v3) rfl rfl) rfl rfl ?_
                rintro u aq199 wq199 hf haq199 hsq199
                obtain rfl := Eq.symm hf
                clear haq198 hsq198 aq198 wq198
                refine seq_op0 haq199 hsq199 (opT_len_hd (v := v3) (n := x9.length) (Hd.of_rd r11) Try.underlying34 rfl rfl) rfl rfl ?_
                rintro u aq200 wq200 hf haq200 hsq200
                obtain rfl := Eq.symm hf
                clear haq199 hsq199 aq199 wq199
                refine seq_op0 haq200 hsq200 (opT_cmp (k := .i64) (m := (x9.length : Int)) (n := 9) (c := (x9.length : Int) != 9) rfl rfl rfl rfl rfl) rfl rfl ?_
                rintro u aq201 wq201 hf haq201 hsq201
                obtain rfl := Eq.symm hf
                clear haq200 hsq200 aq200 wq200
                refine wpList_nil ?_
                replace haq201 := haq201.pick' (L' := [(3, .int .i64 (p0a.2.1.length : Int)), (30, va1), (31, .int .i64 (p0a.2.2.length : Int)), (32, .int .i64 s11), (50, .bool ((x9.length : Int) != 9))]) ⟨rfl, rfl, rfl, rfl, rfl, trivial⟩
                refine nrm ?_
                rcases two ((x9.length : Int) != 9) with hb27 | hb27
                · replace hm := ifFe hb27 hm
                  refine cnd_false (b := (x9.length : Int) != 9) haq201 rfl rfl hb27 ?_
                  refine wp_skip ?_
                  refine nrmB ?_
                  refine nrm ?_
                  refine wp_region_lit ?_
                  refine seq_op0 haq201 hsq201 (opT_add (m := s11) (n := 1) rfl rfl rfl) rfl rfl ?_
                  rintro u aq202 wq202 hf haq202 hsq202
                  obtain rfl := Eq.symm hf
                  clear haq201 hsq201 aq201 wq201
                  refine seq_op0 haq202 hsq202 (opT_move (v := .int .i64 (IntKind.i64.wrap (s11 + 1))) rfl rfl) rfl rfl ?_
                  rintro u aq203 wq203 hf haq203 hsq203
                  obtain rfl := Eq.symm hf
                  clear haq202 hsq202 aq202 wq202
                  refine wpList_nil ?_
                  replace haq203 := haq203.pick' (L' := [(3, .int .i64 (p0a.2.1.length : Int)), (30, va1), (31, .int .i64 (p0a.2.2.length : Int)), (32, .int .i64 (IntKind.i64.wrap (s11 + 1)))]) ⟨rfl, rfl, rfl, rfl, trivial⟩
                  refine nrm ?_
                  exact ⟨_, (Option.some.inj hm).symm, ⟨haq203.pick' ⟨rfl, rfl, rfl, rfl, trivial⟩, St.sel hsq203 1 [0] rfl rfl⟩⟩
                · replace hm := ifTe hb27 hm
                  refine cnd_true (b := (x9.length : Int) != 9) haq201 rfl rfl hb27 ?_
                  refine wp_seq ?_
                  refine wp_region_lit ?_
                  refine seq_op0 haq201 hsq201 (opT_assign (v := .bool false) rfl rfl) rfl rfl ?_
                  rintro u aq204 wq204 hf haq204 hsq204
                  obtain rfl := Eq.symm hf
                  clear haq201 hsq201 aq201 wq201
                  refine wpList_nil ?_
                  replace haq204 := haq204.pick' (L' := [(2, .bool false)]) ⟨rfl, trivial⟩
                  refine nrm ?_
                  refine wp_ret ?_
                  refine blkR ?_
                  refine thenR ?_
                  refine thenR ?_
                  refine blkR ?_
                  refine thenR ?_
                  refine thenR ?_
                  replace hm := loopRet hm hf3 hc3
                  obtain rfl := Option.some.inj hm
                  exact ret_1 haq204 rfl (res_tmp haq204 rfl) ⟨_, rfl, rfl, _, Hp.le.rfl, St.sel (hsq204) 1 [0] rfl rfl⟩
        · rintro aq205 wq205 ⟨s12, ho4, haq205, hsq205⟩
          replace hm := loopOut ho4 hc3
          clear ho4 hc3 hl3
          refine nrm ?_
          refine wp_seq ?_
          refine wp_region_lit ?_
          refine seq_op0 haq205 hsq205 (opT_assign (v := .bool true) rfl rfl) rfl rfl ?_
          rintro u aq206 wq206 hf haq206 hsq206
          obtain rfl := Eq.symm hf
          clear haq205 hsq205 aq205 wq205
          refine wpList_nil ?_
          replace haq206 := haq206.pick' (L' := [(2, .bool true)]) ⟨rfl, trivial⟩
          refine nrm ?_
          refine wp_ret ?_
          obtain rfl := Option.some.inj hm
          exact ret_1 haq206 rfl (res_tmp haq206 rfl) ⟨_, rfl, rfl, _, Hp.le.rfl, St.sel (hsq206) 1 [0] rfl rfl⟩
      · replace hm := ifTe hb3 hm
        refine cnd_true (b := (p0a.2.2.length : Int) != (p0a.2.1.length : Int)) haq46 rfl rfl hb3 ?_
        refine wp_seq ?_
        refine wp_region_lit ?_
        refine seq_op0 haq46 hsq46 (opT_assign (v := .bool false) rfl rfl) rfl rfl ?_
        rintro u aq207 wq207 hf haq207 hsq207
        obtain rfl := Eq.symm hf
        clear haq46 hsq46 aq46 wq46
        refine wpList_nil ?_
        replace haq207 := haq207.pick' (L' := [(2, .bool false)]) ⟨rfl, trivial⟩
        refine nrm ?_
        refine wp_ret ?_
        refine thenR ?_
        obtain rfl := Option.some.inj hm
        exact ret_1 haq207 rfl (res_tmp haq207 rfl) ⟨_, rfl, rfl, _, Hp.le.rfl, St.sel (hsq207) 2 [1] rfl rfl⟩
set_option maxHeartbeats 8000000 in
theorem c_w_szIntSS (p0a : List (List Int)) (p1left : Int) (r : Int) (hm : m_w_szIntSS p0a p1left = some r) {I : Hp} {w0 : World} (va0 : Value) (ra0 : (rSlice 34 (rSlice 3 rInt)).rd I [va0] p0a) : Con Try.prog 45 #[va0, .int .i64 p1left] I w0 [] (fun v => v = .int .i64 r) (fun v => []) := by
  refine con_of_wp (n := 27) [(0, va0), (1, .int .i64 p1left)] Try.func45 rfl rfl (Nat.le_of_ble_eq_true rfl) (args_all ⟨rfl, rfl, trivial⟩) (fun F w a ha hs => ?_) (fun v => trivial)
  unfold m_w_szIntSS at hm
  refine wp_seq ?_
  refine wp_region_lit ?_
  refine seq_op0 ha hs (opT_assign (v := .int .i64 0) rfl rfl) rfl rfl ?_
  rintro u aq1 wq1 hf haq1 hsq1
  obtain rfl := Eq.symm hf
  clear ha hs a w
  refine wpList_nil ?_
  replace haq1 := haq1.pick' (L' := [(0, va0), (1, .int .i64 p1left)]) ⟨rfl, rfl, trivial⟩
  refine nrm ?_
  refine wp_seq ?_
  refine wp_region_lit ?_
  refine seq_op0 haq1 hsq1 (opT_move (v := .int .i64 p1left) rfl rfl) rfl rfl ?_
  rintro u aq2 wq2 hf haq2 hsq2
  obtain rfl := Eq.symm hf
  clear haq1 hsq1 aq1 wq1
  refine seq_op0 haq2 hsq2 (opT_move (v := va0) rfl rfl) rfl rfl ?_
  rintro u aq3 wq3 hf haq3 hsq3
  obtain rfl := Eq.symm hf
  clear haq2 hsq2 aq2 wq2
  refine seq_op0 haq3 hsq3 (opT_len_hd (v := va0) (n := p0a.length) (Hd.of_rd ra0) Try.underlying23 rfl rfl) rfl rfl ?_
  rintro u aq4 wq4 hf haq4 hsq4
  obtain rfl := Eq.symm hf
  clear haq3 hsq3 aq3 wq3
  refine seq_op0 haq4 hsq4 (opT_sub (m := p1left) (n := (p0a.length : Int)) rfl rfl rfl) rfl rfl ?_
  rintro u aq5 wq5 hf haq5 hsq5
  obtain rfl := Eq.symm hf
  clear haq4 hsq4 aq4 wq4
  refine seq_op0 haq5 hsq5 (opT_assign (v := .int .i64 (IntKind.i64.wrap (p1left - (p0a.length : Int)))) rfl rfl) rfl rfl ?_
  rintro u aq6 wq6 hf haq6 hsq6
  obtain rfl := Eq.symm hf
  clear haq5 hsq5 aq5 wq5
  refine wpList_nil ?_
  replace haq6 := haq6.pick' (L' := [(0, va0), (1, .int .i64 (IntKind.i64.wrap (p1left - (p0a.length : Int))))]) ⟨rfl, rfl, trivial⟩
  refine nrm ?_
  refine wp_seq ?_
  refine wp_seq ?_
  refine wp_region_lit ?_
  refine seq_op0 haq6 hsq6 (opT_move (v := .int .i64 (IntKind.i64.wrap (p1left - (p0a.length : Int)))) rfl rfl) rfl rfl ?_
  rintro u aq7 wq7 hf haq7 hsq7
  obtain rfl := Eq.symm hf
  clear haq6 hsq6 aq6 wq6
  refine seq_op0 haq7 hsq7 (opT_cmp (k := .i64) (m := IntKind.i64.wrap (p1left - (p0a.length : Int))) (n := 0) (c := decide (IntKind.i64.wrap (p1left - (p0a.length : Int)) < 0)) rfl rfl rfl rfl rfl) rfl rfl ?_
  rintro u aq8 wq8 hf haq8 hsq8
  obtain rfl := Eq.symm hf
  clear haq7 hsq7 aq7 wq7
  refine wpList_nil ?_
  replace haq8 := haq8.pick' (L' := [(0, va0), (1, .int .i64 (IntKind.i64.wrap (p1left - (p0a.length : Int)))), (11, .bool (decide (IntKind.i64.wrap (p1left - (p0a.length : Int)) < 0)))]) ⟨rfl, rfl, rfl, trivial⟩
  refine nrm ?_
  rcases two (decide (IntKind.i64.wrap (p1left - (p0a.length : Int)) < 0)) with hb1 | hb1
  · replace hm := ifFe hb1 hm
    refine cnd_false (b := decide (IntKind.i64.wrap (p1left - (p0a.length : Int)) < 0)) haq8 rfl rfl hb1 ?_
    refine wp_skip ?_
    refine nrm ?_
    refine wp_seq ?_
    refine wp_seq ?_
    refine wp_region_lit ?_
    refine seq_op0 haq8 hsq8 (opT_assign (v := .int .i64 0) rfl rfl) rfl rfl ?_
    rintro u aq9 wq9 hf haq9 hsq9
    obtain rfl := Eq.symm hf
    clear haq8 hsq8 aq8 wq8
    refine wpList_nil ?_
    replace haq9 := haq9.pick' (L' := [(0, va0), (1, .int .i64 (IntKind.i64.wrap (p1left - (p0a.length : Int)))), (5, .int .i64 0)]) ⟨rfl, rfl, rfl, trivial⟩
    refine nrm ?_
    obtain ⟨o1, hl1, hc1⟩ := bindL_some hm
    refine wp_cut (fun a w => ∃ s4 : Int × Int, o1 = .brk s4 ∧ Agr 27 a [(1, .int .i64 s4.1)] ∧ St I w0 w [F]) ?_ ?_
    · refine wp_block (wp_loopM (R := Int) (S := Int × Int) (fun s3 a w => Agr 27 a [(0, va0), (1, .int .i64 s3.1), (5, .int .i64 s3.2)] ∧ St I w0 w [F]) hl1 ?_ ?_)
      · exact ⟨haq9.pick' ⟨rfl, rfl, rfl, trivial⟩, St.sel hsq9 1 [0] rfl rfl⟩
      · rintro s3 o2 hm hf1 aq44 wq44 ⟨haq44, hsq44⟩
        unfold m_w_szIntSS_l0 at hm
        refine wp_seq ?_
        refine wp_seq ?_
        refine wp_region_lit ?_
        refine seq_op0 haq44 hsq44 (opT_move (v := .int .i64 s3.2) rfl rfl) rfl rfl ?_
        rintro u aq45 wq45 hf haq45 hsq45
        obtain rfl := Eq.symm hf
        clear haq44 hsq44 aq44 wq44
        refine seq_op0 haq45 hsq45 (opT_move (v := va0) rfl rfl) rfl rfl ?_
        rintro u aq46 wq46 hf haq46 hsq46
        obtain rfl := Eq.symm hf
        clear haq45 hsq45 aq45 wq45
        refine seq_op0 haq46 hsq46 (opT_len_hd (v := va0) (n := p0a.length) (Hd.of_rd ra0) Try.underlying23 rfl rfl) rfl rfl ?_
        rintro u aq47 wq47 hf haq47 hsq47
        obtain rfl := Eq.symm hf
        clear haq46 hsq46 aq46 wq46
        refine seq_op0 haq47 hsq47 (opT_cmp (k := .i64) (m := s3.2) (n := (p0a.length : Int)) (c := decide (s3.2 < (p0a.length : Int))) rfl rfl rfl rfl rfl) rfl rfl ?_
        rintro u aq48 wq48 hf haq48 hsq48
        obtain rfl := Eq.symm hf
        clear haq47 hsq47 aq47 wq47
        refine wpList_nil ?_
        replace haq48 := haq48.pick' (L' := [(0, va0), (1, .int .i64 s3.1), (5, .int .i64 s3.2), (15, .bool (decide (s3.2 < (p0a.length : Int))))]) ⟨rfl, rfl, rfl, rfl, trivial⟩
        refine nrm ?_
        rcases two (decide (s3.2 < (p0a.length : Int))) with hb6 | hb6
        · replace hm := ifFe hb6 hm
          refine cnd_false (b := decide (s3.2 < (p0a.length : Int))) haq48 rfl rfl hb6 ?_
          refine wp_exit ?_
          refine thenX ?_
          refine thenX ?_
          refine ex_in ?_
          refine nrm ?_
          exact ⟨_, loopBrk hm hf1, ⟨haq48.pick' ⟨rfl, trivial⟩, St.sel hsq48 1 [0] rfl rfl⟩⟩
        · replace hm := ifTe hb6 hm
          refine cnd_true (b := decide (s3.2 < (p0a.length : Int))) haq48 rfl rfl hb6 ?_
          refine wp_skip ?_
          refine nrm ?_
          refine wp_seq ?_
          refine wp_block ?_
          refine wp_seq ?_
          refine wp_region_lit ?_
          refine seq_op0 haq48 hsq48 (opT_move (v := va0) rfl rfl) rfl rfl ?_
          rintro u aq49 wq49 hf haq49 hsq49
          obtain rfl := Eq.symm hf
          clear haq48 hsq48 aq48 wq48
          refine seq_op0 haq49 hsq49 (opT_move (v := .int .i64 s3.2) rfl rfl) rfl rfl ?_
          rintro u aq50 wq50 hf haq50 hsq50
          obtain rfl := Eq.symm hf
          clear haq49 hsq49 aq49 wq49
          obtain ⟨x3, e5, hm⟩ := bind_some hm
          refine seq_op0 haq50 hsq50 (opT_index_hd (xs := p0a) (i := s3.2) (n := 1) (Hd.of_rd ra0) Try.underlying23 ti34 rfl rfl rfl (getI_in e5)) rfl rfl ?_
          rintro u aq51 wq51 hf haq51 hsq51
          obtain rfl := Eq.symm hf
          clear haq50 hsq50 aq50 wq50
          refine seq_op0 haq51 hsq51 (opT_load_el (S := rSlice 3 rInt) (xs := p0a) (a := x3) (i := s3.2) (k := 1) (off := 0) (f := fun (x : List Int) => x) ra0 e5 Fld.self ti34 rfl rfl rfl rfl rfl) rfl rfl ?_
          rintro v3 aq52 wq52 hf haq52 hsq52
          have r5 := lds_sl hf
          clear hf
          clear haq51 hsq51 aq51 wq51
          refine seq_op0 haq52 hsq52 (opT_move (v := .int .i64 s3.1) rfl rfl) rfl rfl ?_
          rintro u aq53 wq53 hf haq53 hsq53
          obtain rfl := Eq.symm hf
          clear haq52 hsq52 aq52 wq52
          obtain ⟨r6, e6, hm⟩ := bind_some hm
          refine seq_op0 haq53 hsq53 (opT_call (args := #[v3, .int .i64 s3.1]) (first := #[]) (captured := #[]) en63 rfl rfl rfl (c_w_szIntS x3 s3.1 _ e6 v3 r5)) rfl rfl ?_
          rintro u aq54 wq54 hf haq54 hsq54
          obtain rfl := Eq.symm hf
          clear haq53 hsq53 aq53 wq53
          refine seq_op0 haq54 hsq54 (opT_assign (v := .int .i64 r6) rfl rfl) rfl rfl ?_
          rintro u aq55 wq55 hf haq55 hsq55
          obtain rfl := Eq.symm hf
          clear haq54 hsq54 aq54 wq54
          refine wpList_nil ?_
          replace haq55 := haq55.pick' (L' := [(0, va0), (1, .int .i64 r6), (5, .int .i64 s3.2)]) ⟨rfl, rfl, rfl, trivial⟩
          refine nrm ?_
          refine wp_seq ?_
          refine wp_region_lit ?_
          refine seq_op0 haq55 hsq55 (opT_move (v := .int .i64 r6) rfl rfl) rfl rfl ?_
          rintro u aq56 wq56 hf haq56 hsq56
          obtain rfl := Eq.symm hf
          clear haq55 hsq55 aq55 wq55
          refine seq_op0 haq56 hsq56 (opT_cmp (k := .i64) (m := r6) (n := 0) (c := decide (r6 < 0)) rfl rfl rfl rfl rfl) rfl rfl ?_
          rintro u aq57 wq57 hf haq57 hsq57
          obtain rfl := Eq.symm hf
          clear haq56 hsq56 aq56 wq56
          refine wpList_nil ?_
          replace haq57 := haq57.pick' (L' := [(0, va0), (1, .int .i64 r6), (5, .int .i64 s3.2), (25, .bool (decide (r6 < 0)))]) ⟨rfl, rfl, rfl, rfl, trivial⟩
          refine nrm ?_
          rcases two (decide (r6 < 0)) with hb7 | hb7
          · replace hm := ifFe hb7 hm
            refine cnd_false (b := decide (r6 < 0)) haq57 rfl rfl hb7 ?_
            refine wp_skip ?_
            refine nrmB ?_
            refine nrm ?_
            refine wp_region_lit ?_
            refine seq_op0 haq57 hsq57 (opT_move (v := .int .i64 s3.2) rfl rfl) rfl rfl ?_
            rintro u aq58 wq58 hf haq58 hsq58
            obtain rfl := Eq.symm hf
            clear haq57 hsq57 aq57 wq57
            refine seq_op0 haq58 hsq58 (opT_add (m := s3.2) (n := 1) rfl rfl rfl) rfl rfl ?_
            rintro u aq59 wq59 hf haq59 hsq59
            obtain rfl := Eq.symm hf
            clear haq58 hsq58 aq58 wq58
            refine seq_op0 haq59 hsq59 (opT_assign (v := .int .i64 (IntKind.i64.wrap (s3.2 + 1))) rfl rfl) rfl rfl ?_
            rintro u aq60 wq60 hf haq60 hsq60
            obtain rfl := Eq.symm hf
            clear haq59 hsq59 aq59 wq59
            refine wpList_nil ?_
            replace haq60 := haq60.pick' (L' := [(0, va0), (1, .int .i64 r6), (5, .int .i64 (IntKind.i64.wrap (s3.2 + 1)))]) ⟨rfl, rfl, rfl, trivial⟩
            refine nrm ?_
            exact ⟨_, (Option.some.inj hm).symm, ⟨haq60.pick' ⟨rfl, rfl, rfl, trivial⟩, St.sel hsq60 1 [0] rfl rfl⟩⟩
          · replace hm := ifTe hb7 hm
            refine cnd_true (b := decide (r6 < 0)) haq57 rfl rfl hb7 ?_
            refine wp_seq ?_
            refine wp_region_lit ?_
            refine seq_op0 haq57 hsq57 (opT_assign (v := .int .i64 (-1)) rfl rfl) rfl rfl ?_
            rintro u aq61 wq61 hf haq61 hsq61
            obtain rfl := Eq.symm hf
            clear haq57 hsq57 aq57 wq57
            refine wpList_nil ?_
            replace haq61 := haq61.pick' (L' := [(4, .int .i64 (-1))]) ⟨rfl, trivial⟩
            refine nrm ?_
            refine wp_ret ?_
            refine blkR ?_
            refine thenR ?_
            refine thenR ?_
            refine blkR ?_
            refine thenR ?_
            refine thenR ?_
            replace hm := loopRet hm hf1 hc1
            obtain rfl := Option.some.inj hm
            exact ret_1 haq61 rfl (res_tmp haq61 rfl) ⟨_, rfl, rfl, _, Hp.le.rfl, St.sel (hsq61) 1 [0] rfl rfl⟩
    · rintro aq62 wq62 ⟨s4, ho1, haq62, hsq62⟩
      replace hm := loopOut ho1 hc1
      clear ho1 hc1 hl1
      refine nrm ?_
      refine wp_seq ?_
      refine wp_region_lit ?_
      refine seq_op0 haq62 hsq62 (opT_move (v := .int .i64 s4.1) rfl rfl) rfl rfl ?_
      rintro u aq63 wq63 hf haq63 hsq63
      obtain rfl := Eq.symm hf
      clear haq62 hsq62 aq62 wq62
      refine seq_op0 haq63 hsq63 (opT_assign (v := .int .i64 s4.1) rfl rfl) rfl rfl ?_
      rintro u aq64 wq64 hf haq64 hsq64
      obtain rfl := Eq.symm hf
      clear haq63 hsq63 aq63 wq63
      refine wpList_nil ?_
      replace haq64 := haq64.pick' (L' := [(4, .int .i64 s4.1)]) ⟨rfl, trivial⟩
      refine nrm ?_
      refine wp_ret ?_
      obtain rfl := Option.some.inj hm
      exact ret_1 haq64 rfl (res_tmp haq64 rfl) ⟨_, rfl, rfl, _, Hp.le.rfl, St.sel (hsq64) 1 [0] rfl rfl⟩
  · replace hm := ifTe hb1 hm
    refine cnd_true (b := decide (IntKind.i64.wrap (p1left - (p0a.length : Int)) < 0)) haq8 rfl rfl hb1 ?_
    refine wp_seq ?_
    refine wp_region_lit ?_
    refine seq_op0 haq8 hsq8 (opT_assign (v := .int .i64 (-1)) rfl rfl) rfl rfl ?_
    rintro u aq65 wq65 hf haq65 hsq65
    obtain rfl := Eq.symm hf
    clear haq8 hsq8 aq8 wq8
    refine wpList_nil ?_
    replace haq65 := haq65.pick' (L' := [(4, .int .i64 (-1))]) ⟨rfl, trivial⟩
    refine nrm ?_
    refine wp_ret ?_
    refine thenR ?_
    obtain rfl := Option.some.inj hm
    exact ret_1 haq65 rfl (res_tmp haq65 rfl) ⟨_, rfl, rfl, _, Hp.le.rfl, St.sel (hsq65) 1 [0] rfl rfl⟩
set_option maxHeartbeats 8000000 in
theorem c_w_markIntSS (p0a : List (List Int)) (p1k : Int) (r : Int × (List (List Int))) (hm : m_w_markIntSS p0a p1k = some r) {I : Hp} {w0 : World} (va0 : Value) : Con Try.prog 56 #[va0, .int .i64 p1k] I w0 [Ch.own (rSlice 34 (rSlice 3 rInt)) [va0] p0a] (fun v => v = .int .i64 r.1) (fun v => [Ch.own (rSlice 34 (rSlice 3 rInt)) [va0] r.2]) := by
  refine con_of_wp (n := 19) [(0, va0), (1, .int .i64 p1k)] Try.func56 rfl rfl (Nat.le_of_ble_eq_true rfl) (args_all ⟨rfl, rfl, trivial⟩) (fun F w a ha hs => ?_) (fun v => ⟨dp_own (dp_slice (dp_slice dp_int)), trivial⟩)
  unfold m_w_markIntSS at hm
  refine wp_seq ?_
  refine wp_region_lit ?_
  refine seq_op0 ha hs (opT_assign (v := .int .i64 0) rfl rfl) rfl rfl ?_
  rintro u aq1 wq1 hf haq1 hsq1
  obtain rfl := Eq.symm hf
  clear ha hs a w
  refine wpList_nil ?_
  replace haq1 := haq1.pick' (L' := [(0, va0), (1, .int .i64 p1k)]) ⟨rfl, rfl, trivial⟩
  refine nrm ?_
  refine wp_seq ?_
  refine wp_seq ?_
  refine wp_region_lit ?_
  refine seq_op0 haq1 hsq1 (opT_assign (v := .int .i64 0) rfl rfl) rfl rfl ?_
  rintro u aq2 wq2 hf haq2 hsq2
  obtain rfl := Eq.symm hf
  clear haq1 hsq1 aq1 wq1
  refine wpList_nil ?_
  replace haq2 := haq2.pick' (L' := [(0, va0), (1, .int .i64 p1k), (5, .int .i64 0)]) ⟨rfl, rfl, rfl, trivial⟩
  refine nrm ?_
  obtain ⟨o1, hl1, hc1⟩ := bindL_some hm
  refine wp_cut (fun a w => ∃ s4 : (List (List Int)) × Int × Int, o1 = .brk s4 ∧ Agr 19 a [(1, .int .i64 s4.2.1)] ∧ St I w0 w [Ch.own (rSlice 34 (rSlice 3 rInt)) [va0] s4.1, F]) ?_ ?_
  · refine wp_block (wp_loopM (R := Int × (List (List Int))) (S := (List (List Int)) × Int × Int) (fun s3 a w => Agr 19 a [(0, va0), (1, .int .i64 s3.2.1), (5, .int .i64 s3.2.2)] ∧ St I w0 w [Ch.own (rSlice 34 (rSlice 3 rInt)) [va0] s3.1, F]) hl1 ?_ ?_)
    · exact ⟨haq2.pick' ⟨rfl, rfl, rfl, trivial⟩, St.sel hsq2 2 [0, 1] rfl rfl⟩
    · rintro s3 o2 hm hf1 aq31 wq31 ⟨haq31, hsq31⟩
      unfold m_w_markIntSS_l0 at hm
      refine wp_seq ?_
      refine wp_seq ?_
      refine wp_region_lit ?_
      refine seq_op0 haq31 hsq31 (opT_move (v := .int .i64 s3.2.2) rfl rfl) rfl rfl ?_
      rintro u aq32 wq32 hf haq32 hsq32
      obtain rfl := Eq.symm hf
      clear haq31 hsq31 aq31 wq31
      refine seq_op0 haq32 hsq32 (opT_move (v := va0) rfl rfl) rfl rfl ?_
      rintro u aq33 wq33 hf haq33 hsq33
      obtain rfl := Eq.symm hf
      clear haq32 hsq32 aq32 wq32
      refine seq_op0 haq33 hsq33 (opT_len_hd (v := va0) (n := s3.1.length) (St.hd hsq33 0 rfl).1 Try.underlying23 rfl rfl) rfl rfl ?_
      rintro u aq34 wq34 hf haq34 hsq34
      obtain rfl := Eq.symm hf
      clear haq33 hsq33 aq33 wq33
      refine seq_op0 haq34 hsq34 (opT_cmp (k := .i64) (m := s3.2.2) (n := (s3.1.length : Int)) (c := decide (s3.2.2 < (s3.1.length : Int))) rfl rfl rfl rfl rfl) rfl rfl ?_
      rintro u aq35 wq35 hf haq35 hsq35
      obtain rfl := Eq.symm hf
      clear haq34 hsq34 aq34 wq34
      refine wpList_nil ?_
      replace haq35 := haq35.pick' (L' := [(0, va0), (1, .int .i64 s3.2.1), (5, .int .i64 s3.2.2), (9, .bool (decide (s3.2.2 < (s3.1.length : Int))))]) ⟨rfl, rfl, rfl, rfl, trivial⟩
      refine nrm ?_
      rcases two (decide (s3.2.2 < (s3.1.length : Int))) with hb3 | hb3
      · replace hm := ifFe hb3 hm
        refine cnd_false (b := decide (s3.2.2 < (s3.1.length : Int))) haq35 rfl rfl hb3 ?_
        refine wp_exit ?_
        refine thenX ?_
        refine thenX ?_
        refine ex_in ?_
        refine nrm ?_
        exact ⟨_, loopBrk hm hf1, ⟨haq35.pick' ⟨rfl, trivial⟩, St.sel hsq35 2 [0, 1] rfl rfl⟩⟩
      · replace hm := ifTe hb3 hm
        refine cnd_true (b := decide (s3.2.2 < (s3.1.length : Int))) haq35 rfl rfl hb3 ?_
        refine wp_skip ?_
        refine nrm ?_
        refine wp_seq ?_
        refine wp_block ?_
        refine wp_region_lit ?_
        refine seq_op0 haq35 hsq35 (opT_move (v := va0) rfl rfl) rfl rfl ?_
        rintro u aq36 wq36 hf haq36 hsq36
        obtain rfl := Eq.symm hf
        clear haq35 hsq35 aq35 wq35
        refine seq_op0 haq36 hsq36 (opT_move (v := .int .i64 s3.2.2) rfl rfl) rfl rfl ?_
        rintro u aq37 wq37 hf haq37 hsq37
        obtain rfl := Eq.symm hf
        clear haq36 hsq36 aq36 wq36
        obtain ⟨x3, e5, hm⟩ := bind_some hm
        refine seq_op0 haq37 hsq37 (opT_index_hd (xs := s3.1) (i := s3.2.2) (n := 1) (St.hd hsq37 0 rfl).1 Try.underlying23 ti34 rfl rfl rfl (getI_in e5)) rfl rfl ?_
        rintro u aq38 wq38 hf haq38 hsq38
        obtain rfl := Eq.symm hf
        clear haq37 hsq37 aq37 wq37
        refine seq_op haq38 hsq38 rfl (opT_borrow (E := 34) (R := rSlice 3 rInt) (xs := s3.1) (y := x3) (i := s3.2.2) (k := 1) e5 ti34 rfl rfl rfl rfl) (perm_front (i := 0) rfl) rfl ?_
        rintro v6 aq39 wq39 - haq39 (hsq39 : St I w0 wq39 [Ch.own (rSlice 3 rInt) [v6] x3, Ch.hole 34 (rSlice 3 rInt) va0 [v6] s3.1 s3.2.2.toNat, F])
        clear haq38 hsq38 aq38 wq38
        refine seq_op0 haq39 hsq39 (opT_move (v := .int .i64 s3.2.1) rfl rfl) rfl rfl ?_
        rintro u aq40 wq40 hf haq40 hsq40
        obtain rfl := Eq.symm hf
        clear haq39 hsq39 aq39 wq39
        obtain ⟨r6, e6, hm⟩ := bind_some hm
        refine seq_op haq40 hsq40 rfl (opT_call (args := #[v6, .int .i64 s3.2.1]) (first := #[]) (captured := #[]) en102 rfl rfl rfl (c_w_markIntS x3 s3.2.1 _ e6 v6)) (perm_front (i := 0) rfl) rfl ?_
        rintro u aq41 wq41 hf haq41 (hsq41 : St I w0 wq41 [Ch.own (rSlice 3 rInt) [v6] r6.2, Ch.hole 34 (rSlice 3 rInt) va0 [v6] s3.1 s3.2.2.toNat, F])
        obtain rfl := Eq.symm hf
        clear haq40 hsq40 aq40 wq40
        refine seq_op0 haq41 hsq41 (opT_assign (v := .int .i64 r6.1) rfl rfl) rfl rfl ?_
        rintro u aq42 wq42 hf haq42 hsq42
        obtain rfl := Eq.symm hf
        clear haq41 hsq41 aq41 wq41
        refine wpList_nil ?_
        replace haq42 := haq42.pick' (L' := [(0, va0), (1, .int .i64 r6.1), (5, .int .i64 s3.2.2)]) ⟨rfl, rfl, rfl, trivial⟩
        replace hsq42 : St I w0 wq42 [Ch.own (rSlice 3 rInt) [v6] r6.2, Ch.hole 34 (rSlice 3 rInt) va0 [v6] s3.1 s3.2.2.toNat, F] := St.sel hsq42 3 [0, 1, 2] rfl rfl
        replace hsq42 : St I w0 wq42 [Ch.own (rSlice 34 (rSlice 3 rInt)) [va0] (s3.1.set s3.2.2.toNat r6.2), F] := St.putback hsq42
        refine nrmB ?_
        refine nrm ?_
        refine wp_region_lit ?_
        refine seq_op0 haq42 hsq42 (opT_move (v := .int .i64 s3.2.2) rfl rfl) rfl rfl ?_
        rintro u aq43 wq43 hf haq43 hsq43
        obtain rfl := Eq.symm hf
        clear haq42 hsq42 aq42 wq42
        refine seq_op0 haq43 hsq43 (opT_add (m := s3.2.2) (n := 1) rfl rfl rfl) rfl rfl ?_
        rintro u aq44 wq44 hf haq44 hsq44
        obtain rfl := Eq.symm hf
        clear haq43 hsq43 aq43 wq43
        refine seq_op0 haq44 hsq44 (opT_assign (v := .int .i64 (IntKind.i64.wrap (s3.2.2 + 1))) rfl rfl) rfl rfl ?_
        rintro u aq45 wq45 hf haq45 hsq45
        obtain rfl := Eq.symm hf
        clear haq44 hsq44 aq44 wq44
        refine wpList_nil ?_
        replace haq45 := haq45.pick' (L' := [(0, va0), (1, .int .i64 r6.1), (5, .int .i64 (IntKind.i64.wrap (s3.2.2 + 1)))]) ⟨rfl, rfl, rfl, trivial⟩
        refine nrm ?_
        exact ⟨_, (Option.some.inj hm).symm, ⟨haq45.pick' ⟨rfl, rfl, rfl, trivial⟩, St.sel hsq45 2 [0, 1] rfl rfl⟩⟩
  · rintro aq46 wq46 ⟨s4, ho1, haq46, hsq46⟩
    replace hm := loopOut ho1 hc1
    clear ho1 hc1 hl1
    refine nrm ?_
    refine wp_seq ?_
    refine wp_region_lit ?_
    refine seq_op0 haq46 hsq46 (opT_move (v := .int .i64 s4.2.1) rfl rfl) rfl rfl ?_
    rintro u aq47 wq47 hf haq47 hsq47
    obtain rfl := Eq.symm hf
    clear haq46 hsq46 aq46 wq46
    refine seq_op0 haq47 hsq47 (opT_assign (v := .int .i64 s4.2.1) rfl rfl) rfl rfl ?_
    rintro u aq48 wq48 hf haq48 hsq48
    obtain rfl := Eq.symm hf
    clear haq47 hsq47 aq47 wq47
    refine wpList_nil ?_
    replace haq48 := haq48.pick' (L' := [(4, .int .i64 s4.2.1)]) ⟨rfl, trivial⟩
    refine nrm ?_
    refine wp_ret ?_
    obtain rfl := Option.some.inj hm
    exact ret_1 haq48 rfl (res_tmp haq48 rfl) ⟨_, rfl, rfl, _, Hp.le.rfl, St.sel (hsq48) 2 [0, 1] rfl rfl⟩
end Go.Proofs.Ytcihbmdppgpmjaa.D
