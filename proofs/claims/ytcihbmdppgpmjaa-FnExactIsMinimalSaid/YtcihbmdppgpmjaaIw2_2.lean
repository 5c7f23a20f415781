/- Printed by dec.py: models of functions and the walks that show them. -/
import Derived.Test.YtcihbmdppgpmjaaIw0_1
import Derived.Test.YtcihbmdppgpmjaaIw0_3
import Derived.Test.YtcihbmdppgpmjaaIw1_0
import Derived.Test.YtcihbmdppgpmjaaIw1_1
import Derived.Test.YtcihbmdppgpmjaaIw1_2
set_option linter.unusedVariables false
set_option linter.unusedSimpArgs false
set_option linter.unnecessarySimpa false
set_option maxRecDepth 100000
namespace Go.Proofs.Ytcihbmdppgpmjaa.D
open Go.RowKit
set_option maxHeartbeats 8000000 in
theorem c_i_EqualAutomata (p0a : Int × (List Bool) × (List (List Int))) (p1b : Int × (List Bool) × (List (List Int))) (r : Bool) (hm : m_i_EqualAutomata p0a p1b = some r) {I : Hp} {w0 : World} (va0 : Value) (va1 : Value) (va2 : Value) (va3 : Value) (ra0 : (rSlice 4 rBool).rd I [va0] p0a.2.1) (ra1 : (rSlice 34 (rSlice 3 rInt)).rd I [va1] p0a.2.2) (ra2 : (rSlice 4 rBool).rd I [va2] p1b.2.1) (ra3 : (rSlice 34 (rSlice 3 rInt)).rd I [va3] p1b.2.2) : Con Try.prog 61 #[.agg #[.int .i64 p0a.1, va0, va1], .agg #[.int .i64 p1b.1, va2, va3]] I w0 [] (fun v => v = .bool r) (fun v => []) := by
  refine con_of_wp (n := 24) [(0, .agg #[.int .i64 p0a.1, va0, va1]), (1, .agg #[.int .i64 p1b.1, va2, va3])] Try.func61 rfl rfl (Nat.le_of_ble_eq_true rfl) (args_all ⟨rfl, rfl, trivial⟩) (fun F w a ha hs => ?_) (fun v => trivial)
  unfold m_i_EqualAutomata at hm
  refine wp_seq ?_
  refine wp_region_lit ?_
  refine seq_op ha hs rfl (opT_box (u := .agg #[.int .i64 p0a.1, va0, va1]) (l := [.int .i64 p0a.1, va0, va1]) rfl rfl rfl) (List.Perm.refl _) rfl ?_
  rintro _ aq1 wq1 ⟨g1, rfl⟩ haq1 (hsq1 : St I w0 wq1 [Ch.blk g1 [.int .i64 p0a.1, va0, va1] 27, F])
  clear ha hs a w
  refine seq_op haq1 hsq1 rfl (opT_box (u := .agg #[.int .i64 p1b.1, va2, va3]) (l := [.int .i64 p1b.1, va2, va3]) rfl rfl rfl) (List.Perm.refl _) rfl ?_
  rintro _ aq2 wq2 ⟨g2, rfl⟩ haq2 (hsq2 : St I w0 wq2 [Ch.blk g2 [.int .i64 p1b.1, va2, va3] 27, Ch.blk g1 [.int .i64 p0a.1, va0, va1] 27, F])
  clear haq1 hsq1 aq1 wq1
  refine seq_op0 haq2 hsq2 (opT_assign (v := .bool false) rfl rfl) rfl rfl ?_
  rintro u aq3 wq3 hf haq3 hsq3
  obtain rfl := Eq.symm hf
  clear haq2 hsq2 aq2 wq2
  refine wpList_nil ?_
  replace haq3 := haq3.pick' (L' := [(2, .pointer (some ⟨g1, 0, none⟩)), (3, .pointer (some ⟨g2, 0, none⟩))]) ⟨rfl, rfl, trivial⟩
  refine nrm ?_
  refine wp_seq ?_
  refine wp_region_lit ?_
  refine seq_op0 haq3 hsq3 (opT_field_addr (g := g1) (b := 0) tf27_0 rfl rfl) rfl rfl ?_
  rintro u aq4 wq4 hf haq4 hsq4
  obtain rfl := Eq.symm hf
  clear haq3 hsq3 aq3 wq3
  refine seq_op haq4 hsq4 rfl (opT_load_blk (g := g1) (off := 0) (E := 27) (l := [.int .i64 p0a.1, va0, va1]) (d := [.int .i64 p0a.1]) (u := .int .i64 p0a.1) ti3 rfl rfl rfl rfl rfl rfl) (perm_front (i := 1) rfl) rfl ?_
  rintro u aq5 wq5 hf haq5 (hsq5 : St I w0 wq5 [Ch.blk g1 [.int .i64 p0a.1, va0, va1] 27, Ch.blk g2 [.int .i64 p1b.1, va2, va3] 27, F])
  obtain rfl := Eq.symm hf
  clear haq4 hsq4 aq4 wq4
  refine seq_op0 haq5 hsq5 (opT_field_addr (g := g2) (b := 0) tf27_0 rfl rfl) rfl rfl ?_
  rintro u aq6 wq6 hf haq6 hsq6
  obtain rfl := Eq.symm hf
  clear haq5 hsq5 aq5 wq5
  refine seq_op haq6 hsq6 rfl (opT_load_blk (g := g2) (off := 0) (E := 27) (l := [.int .i64 p1b.1, va2, va3]) (d := [.int .i64 p1b.1]) (u := .int .i64 p1b.1) ti3 rfl rfl rfl rfl rfl rfl) (perm_front (i := 1) rfl) rfl ?_
  rintro u aq7 wq7 hf haq7 (hsq7 : St I w0 wq7 [Ch.blk g2 [.int .i64 p1b.1, va2, va3] 27, Ch.blk g1 [.int .i64 p0a.1, va0, va1] 27, F])
  obtain rfl := Eq.symm hf
  clear haq6 hsq6 aq6 wq6
  refine seq_op0 haq7 hsq7 (opT_cmp (k := .i64) (m := p0a.1) (n := p1b.1) (c := p0a.1 == p1b.1) rfl rfl rfl rfl rfl) rfl rfl ?_
  rintro u aq8 wq8 hf haq8 hsq8
  obtain rfl := Eq.symm hf
  clear haq7 hsq7 aq7 wq7
  refine seq_op0 haq8 hsq8 (opT_move (v := .bool (p0a.1 == p1b.1)) rfl rfl) rfl rfl ?_
  rintro u aq9 wq9 hf haq9 hsq9
  obtain rfl := Eq.symm hf
  clear haq8 hsq8 aq8 wq8
  rcases two (p0a.1 == p1b.1) with hb1 | hb1
  · replace hm := ifFe hb1 hm
    refine seq_skip (g := 5) (d := 10) (want := true) (b := p0a.1 == p1b.1) haq9 hsq9 rfl rfl rfl hb1 rfl ?_
    intro aq10 haq10
    refine seq_skip (g := 5) (d := 10) (want := true) (b := p0a.1 == p1b.1) haq10 hsq9 rfl rfl rfl hb1 rfl ?_
    intro aq11 haq11
    refine seq_skip (g := 5) (d := 10) (want := true) (b := p0a.1 == p1b.1) haq11 hsq9 rfl rfl rfl hb1 rfl ?_
    intro aq12 haq12
    refine seq_skip (g := 5) (d := 10) (want := true) (b := p0a.1 == p1b.1) haq12 hsq9 rfl rfl rfl hb1 rfl ?_
    intro aq13 haq13
    refine seq_skip (g := 5) (d := 10) (want := true) (b := p0a.1 == p1b.1) haq13 hsq9 rfl rfl rfl hb1 rfl ?_
    intro aq14 haq14
    refine seq_op0 haq14 hsq9 (opT_pick (b := p0a.1 == p1b.1) (v := .bool false) rfl rfl (ifF hb1)) rfl rfl ?_
    rintro u aq15 wq15 hf haq15 hsq15
    obtain rfl := Eq.symm hf
    clear haq14 hsq9 aq14 wq9
    refine seq_op0 haq15 hsq15 (opT_move (v := .bool false) rfl rfl) rfl rfl ?_
    rintro u aq16 wq16 hf haq16 hsq16
    obtain rfl := Eq.symm hf
    clear haq15 hsq15 aq15 wq15
    refine seq_skip (g := 12) (d := 17) (want := true) (b := false) haq16 hsq16 rfl rfl rfl rfl rfl ?_
    intro aq17 haq17
    refine seq_skip (g := 12) (d := 17) (want := true) (b := false) haq17 hsq16 rfl rfl rfl rfl rfl ?_
    intro aq18 haq18
    refine seq_skip (g := 12) (d := 17) (want := true) (b := false) haq18 hsq16 rfl rfl rfl rfl rfl ?_
    intro aq19 haq19
    refine seq_skip (g := 12) (d := 17) (want := true) (b := false) haq19 hsq16 rfl rfl rfl rfl rfl ?_
    intro aq20 haq20
    refine seq_skip (g := 12) (d := 17) (want := true) (b := false) haq20 hsq16 rfl rfl rfl rfl rfl ?_
    intro aq21 haq21
    refine seq_op0 haq21 hsq16 (opT_pick (b := false) (v := .bool false) rfl rfl (ifF rfl)) rfl rfl ?_
    rintro u aq22 wq22 hf haq22 hsq22
    obtain rfl := Eq.symm hf
    clear haq21 hsq16 aq21 wq16
    refine seq_op0 haq22 hsq22 (opT_assign (v := .bool false) rfl rfl) rfl rfl ?_
    rintro u aq23 wq23 hf haq23 hsq23
    obtain rfl := Eq.symm hf
    clear haq22 hsq22 aq22 wq22
    refine wpList_nil ?_
    replace haq23 := haq23.pick' (L' := [(4, .bool false)]) ⟨rfl, trivial⟩
    refine nrm ?_
    refine wp_ret ?_
    obtain rfl := Option.some.inj hm
    exact ret_1 haq23 rfl (res_tmp haq23 rfl) ⟨_, rfl, rfl, _, Hp.le.rfl, St.sel (hsq23) 3 [2] rfl rfl⟩
  · replace hm := ifTe hb1 hm
    refine seq_op_g0 (g := 5) (d := 10) (want := true) (b := p0a.1 == p1b.1) haq9 hsq9 rfl rfl rfl hb1 (opT_field_addr (g := g1) (b := 0) tf27_1 rfl rfl) rfl ?_
    rintro u aq24 wq24 hf haq24 hsq24
    obtain rfl := Eq.symm hf
    clear haq9 hsq9 aq9 wq9
    refine seq_op_g (g := 5) (d := 10) (want := true) (b := p0a.1 == p1b.1) haq24 hsq24 rfl rfl rfl hb1 (opT_load_blk (g := g1) (off := 1) (E := 27) (l := [.int .i64 p0a.1, va0, va1]) (d := [va0]) (u := va0) ti22 rfl rfl rfl rfl rfl rfl) (perm_front (i := 1) rfl) rfl ?_
    rintro u aq25 wq25 hf haq25 (hsq25 : St I w0 wq25 [Ch.blk g1 [.int .i64 p0a.1, va0, va1] 27, Ch.blk g2 [.int .i64 p1b.1, va2, va3] 27, F])
    obtain rfl := Eq.symm hf
    clear haq24 hsq24 aq24 wq24
    refine seq_op_g0 (g := 5) (d := 10) (want := true) (b := p0a.1 == p1b.1) haq25 hsq25 rfl rfl rfl hb1 (opT_field_addr (g := g2) (b := 0) tf27_1 rfl rfl) rfl ?_
    rintro u aq26 wq26 hf haq26 hsq26
    obtain rfl := Eq.symm hf
    clear haq25 hsq25 aq25 wq25
    refine seq_op_g (g := 5) (d := 10) (want := true) (b := p0a.1 == p1b.1) haq26 hsq26 rfl rfl rfl hb1 (opT_load_blk (g := g2) (off := 1) (E := 27) (l := [.int .i64 p1b.1, va2, va3]) (d := [va2]) (u := va2) ti22 rfl rfl rfl rfl rfl rfl) (perm_front (i := 1) rfl) rfl ?_
    rintro u aq27 wq27 hf haq27 (hsq27 : St I w0 wq27 [Ch.blk g2 [.int .i64 p1b.1, va2, va3] 27, Ch.blk g1 [.int .i64 p0a.1, va0, va1] 27, F])
    obtain rfl := Eq.symm hf
    clear haq26 hsq26 aq26 wq26
    obtain ⟨r1, e1, hm⟩ := bind_some hm
    refine seq_op_g0 (g := 5) (d := 10) (want := true) (b := p0a.1 == p1b.1) haq27 hsq27 rfl rfl rfl hb1 (opT_call (args := #[va0, va2]) (first := #[]) (captured := #[]) en106 rfl rfl rfl (c_g_slices_Equal_S_bool_bool p0a.2.1 p1b.2.1 _ e1 va0 va2 ra0 ra2)) rfl ?_
    rintro u aq28 wq28 hf haq28 hsq28
    obtain rfl := Eq.symm hf
    clear haq27 hsq27 aq27 wq27
    refine seq_op0 haq28 hsq28 (opT_pick (b := p0a.1 == p1b.1) (v := .bool r1) rfl rfl (ifT hb1)) rfl rfl ?_
    rintro u aq29 wq29 hf haq29 hsq29
    obtain rfl := Eq.symm hf
    clear haq28 hsq28 aq28 wq28
    refine seq_op0 haq29 hsq29 (opT_move (v := .bool r1) rfl rfl) rfl rfl ?_
    rintro u aq30 wq30 hf haq30 hsq30
    obtain rfl := Eq.symm hf
    clear haq29 hsq29 aq29 wq29
    rcases two (r1) with hb2 | hb2
    · replace hm := ifFe hb2 hm
      refine seq_skip (g := 12) (d := 17) (want := true) (b := r1) haq30 hsq30 rfl rfl rfl hb2 rfl ?_
      intro aq31 haq31
      refine seq_skip (g := 12) (d := 17) (want := true) (b := r1) haq31 hsq30 rfl rfl rfl hb2 rfl ?_
      intro aq32 haq32
      refine seq_skip (g := 12) (d := 17) (want := true) (b := r1) haq32 hsq30 rfl rfl rfl hb2 rfl ?_
      intro aq33 haq33
      refine seq_skip (g := 12) (d := 17) (want := true) (b := r1) haq33 hsq30 rfl rfl rfl hb2 rfl ?_
      intro aq34 haq34
      refine seq_skip (g := 12) (d := 17) (want := true) (b := r1) haq34 hsq30 rfl rfl rfl hb2 rfl ?_
      intro aq35 haq35
      refine seq_op0 haq35 hsq30 (opT_pick (b := r1) (v := .bool false) rfl rfl (ifF hb2)) rfl rfl ?_
      rintro u aq36 wq36 hf haq36 hsq36
      obtain rfl := Eq.symm hf
      clear haq35 hsq30 aq35 wq30
      refine seq_op0 haq36 hsq36 (opT_assign (v := .bool false) rfl rfl) rfl rfl ?_
      rintro u aq37 wq37 hf haq37 hsq37
      obtain rfl := Eq.symm hf
      clear haq36 hsq36 aq36 wq36
      refine wpList_nil ?_
      replace haq37 := haq37.pick' (L' := [(4, .bool false)]) ⟨rfl, trivial⟩
      refine nrm ?_
      refine wp_ret ?_
      obtain rfl := Option.some.inj hm
      exact ret_1 haq37 rfl (res_tmp haq37 rfl) ⟨_, rfl, rfl, _, Hp.le.rfl, St.sel (hsq37) 3 [2] rfl rfl⟩
    · replace hm := ifTe hb2 hm
      refine seq_op_g0 (g := 12) (d := 17) (want := true) (b := r1) haq30 hsq30 rfl rfl rfl hb2 (opT_field_addr (g := g1) (b := 0) tf27_2 rfl rfl) rfl ?_
      rintro u aq38 wq38 hf haq38 hsq38
      obtain rfl := Eq.symm hf
      clear haq30 hsq30 aq30 wq30
      refine seq_op_g (g := 12) (d := 17) (want := true) (b := r1) haq38 hsq38 rfl rfl rfl hb2 (opT_load_blk (g := g1) (off := 2) (E := 27) (l := [.int .i64 p0a.1, va0, va1]) (d := [va1]) (u := va1) ti23 rfl rfl rfl rfl rfl rfl) (perm_front (i := 1) rfl) rfl ?_
      rintro u aq39 wq39 hf haq39 (hsq39 : St I w0 wq39 [Ch.blk g1 [.int .i64 p0a.1, va0, va1] 27, Ch.blk g2 [.int .i64 p1b.1, va2, va3] 27, F])
      obtain rfl := Eq.symm hf
      clear haq38 hsq38 aq38 wq38
      refine seq_op_g0 (g := 12) (d := 17) (want := true) (b := r1) haq39 hsq39 rfl rfl rfl hb2 (opT_field_addr (g := g2) (b := 0) tf27_2 rfl rfl) rfl ?_
      rintro u aq40 wq40 hf haq40 hsq40
      obtain rfl := Eq.symm hf
      clear haq39 hsq39 aq39 wq39
      refine seq_op_g (g := 12) (d := 17) (want := true) (b := r1) haq40 hsq40 rfl rfl rfl hb2 (opT_load_blk (g := g2) (off := 2) (E := 27) (l := [.int .i64 p1b.1, va2, va3]) (d := [va3]) (u := va3) ti23 rfl rfl rfl rfl rfl rfl) (perm_front (i := 1) rfl) rfl ?_
      rintro u aq41 wq41 hf haq41 (hsq41 : St I w0 wq41 [Ch.blk g2 [.int .i64 p1b.1, va2, va3] 27, Ch.blk g1 [.int .i64 p0a.1, va0, va1] 27, F])
      obtain rfl := Eq.symm hf
      clear haq40 hsq40 aq40 wq40
      obtain ⟨r2, e2, hm⟩ := bind_some hm
      refine seq_op_g0 (g := 12) (d := 17) (want := true) (b := r1) haq41 hsq41 rfl rfl rfl hb2 (opT_call (args := #[va1, va3, .func (.func 108) #[] #[]]) (first := #[]) (captured := #[]) en107 rfl rfl rfl (c_g_slices_EqualFunc_S_S_int_S_S_int_S_int_S_int p0a.2.2 p1b.2.2 (fun a0 a1 => m_i_EqualAutomata_1 a0 a1) _ e2 va1 va3 (.func (.func 108) #[] #[]) ra1 ra3 ⟨isFn, fun J1 hJ1 b1_0 b1_1 r hm k1_0 k1_1 l1_0 l1_1 => ⟨108, #[], #[], rfl, en108, c_i_EqualAutomata_1 b1_0 b1_1 _ hm k1_0 k1_1 l1_0 l1_1⟩⟩)) rfl ?_
      rintro u aq42 wq42 hf haq42 hsq42
      obtain rfl := Eq.symm hf
      clear haq41 hsq41 aq41 wq41
      refine seq_op0 haq42 hsq42 (opT_pick (b := r1) (v := .bool r2) rfl rfl (ifT hb2)) rfl rfl ?_
      rintro u aq43 wq43 hf haq43 hsq43
      obtain rfl := Eq.symm hf
      clear haq42 hsq42 aq42 wq42
      refine seq_op0 haq43 hsq43 (opT_assign (v := .bool r2) rfl rfl) rfl rfl ?_
      rintro u aq44 wq44 hf haq44 hsq44
      obtain rfl := Eq.symm hf
      clear haq43 hsq43 aq43 wq43
      refine wpList_nil ?_
      replace haq44 := haq44.pick' (L' := [(4, .bool r2)]) ⟨rfl, trivial⟩
      refine nrm ?_
      refine wp_ret ?_
      obtain rfl := Option.some.inj hm
      exact ret_1 haq44 rfl (res_tmp haq44 rfl) ⟨_, rfl, rfl, _, Hp.le.rfl, St.sel (hsq44) 3 [2] rfl rfl⟩
set_option maxHeartbeats 8000000 in
theorem c_s_l12Minimize (p0a : Int × (List Bool) × (List (List Int))) (r : Int × (List Bool) × (List (List Int))) (hm : m_s_l12Minimize p0a = some r) {I : Hp} {w0 : World} (va0 : Value) (va1 : Value) (ra0 : (rSlice 4 rBool).rd I [va0] p0a.2.1) (ra1 : (rSlice 34 (rSlice 3 rInt)).rd I [va1] p0a.2.2) : Con Try.prog 60 #[.agg #[.int .i64 p0a.1, va0, va1]] I w0 [] (fun v => ∃ h0 h1 : Value, v = .agg #[.int .i64 r.1, h0, h1]) (fun v => [Ch.own (rSlice 4 rBool) [vg v [1]] r.2.1, Ch.own (rSlice 34 (rSlice 3 rInt)) [vg v [2]] r.2.2]) := by
  refine con_of_wp (n := 9) [(0, .agg #[.int .i64 p0a.1, va0, va1])] Try.func60 rfl rfl (Nat.le_of_ble_eq_true rfl) (args_all ⟨rfl, trivial⟩) (fun F w a ha hs => ?_) (fun v => ⟨dp_own (dp_slice dp_bool), dp_own (dp_slice (dp_slice dp_int)), trivial⟩)
  unfold m_s_l12Minimize at hm
  refine wp_seq ?_
  refine wp_region_lit ?_
  refine seq_op ha hs rfl (opT_box (u := .agg #[.int .i64 p0a.1, va0, va1]) (l := [.int .i64 p0a.1, va0, va1]) rfl rfl rfl) (List.Perm.refl _) rfl ?_
  rintro _ aq1 wq1 ⟨g1, rfl⟩ haq1 (hsq1 : St I w0 wq1 [Ch.blk g1 [.int .i64 p0a.1, va0, va1] 27, F])
  clear ha hs a w
  refine seq_op haq1 hsq1 rfl (opT_alloc (l := [.int .i64 0, .slice none 0 0, .slice none 0 0]) tz27 rfl rfl) (List.Perm.refl _) rfl ?_
  rintro _ aq2 wq2 ⟨g2, rfl⟩ haq2 (hsq2 : St I w0 wq2 [Ch.blk g2 [.int .i64 0, .slice none 0 0, .slice none 0 0] 27, Ch.blk g1 [.int .i64 p0a.1, va0, va1] 27, F])
  clear haq1 hsq1 aq1 wq1
  refine wpList_nil ?_
  replace haq2 := haq2.pick' (L' := [(1, .pointer (some ⟨g1, 0, none⟩)), (2, .pointer (some ⟨g2, 0, none⟩))]) ⟨rfl, rfl, trivial⟩
  refine nrm ?_
  refine wp_seq ?_
  obtain ⟨r1, e1, hm⟩ := bind_some hm
  obtain ⟨r2, e2, hm⟩ := bind_some hm
  obtain ⟨r3, e3, hm⟩ := bind_some hm
  refine wp_draw (L := [(1, .pointer (some ⟨g1, 0, none⟩)), (2, .pointer (some ⟨g2, 0, none⟩))]) (C := [F]) { ops := [⟨[0], [], [], [0], fun | [xo0] => xo0 = .agg #[.int .i64 p0a.1, va0, va1] | _ => True, [(1, none)]⟩, ⟨[0], [], [], [1], fun | [xo1] => xo1 = .agg #[.int .i64 p0a.1, va0, va1] | _ => True, [(1, none)]⟩, ⟨[], [], [2], [2], fun | [xo2] => Hd xo2 (r1).length | _ => True, [(4, some 1)]⟩, ⟨[0], [], [], [3], fun | [xo3] => xo3 = .agg #[.int .i64 p0a.1, va0, va1] | _ => True, [(1, none)]⟩, ⟨[], [], [3], [4], fun | [xo4] => Hd xo4 (r2).length | _ => True, [(6, some 3)]⟩, ⟨[2, 3], [], [4, 5], [5], fun | [xo5] => xo5 = .agg #[.int .i64 r3.1, (vg xo5 [1]), (vg xo5 [2])] ∧ Hd (vg xo5 [1]) (r3.2.1).length ∧ Hd (vg xo5 [2]) (r3.2.2).length | _ => True, [(3, some 0), (5, some 2), (7, some 4)]⟩, ⟨[], [1], [6], [6], fun | [xo6] => True | _ => True, [(2, none), (8, some 5)]⟩], res := [⟨[], fun _ => Ch.blk g1 [.int .i64 p0a.1, va0, va1] 27⟩, ⟨[], fun _ => Ch.blk g2 [.int .i64 0, .slice none 0 0, .slice none 0 0] 27⟩, ⟨[2], fun | [xo2] => Ch.own (rSlice 3 rInt) [xo2] r1 | _ => Ch.fr (fun _ => none) []⟩, ⟨[4], fun | [xo4] => Ch.own (rSlice 4 rBool) [xo4] r2 | _ => Ch.fr (fun _ => none) []⟩, ⟨[5], fun | [xo5] => Ch.own (rSlice 4 rBool) [(vg xo5 [1])] r3.2.1 | _ => Ch.fr (fun _ => none) []⟩, ⟨[5], fun | [xo5] => Ch.own (rSlice 34 (rSlice 3 rInt)) [(vg xo5 [2])] r3.2.2 | _ => Ch.fr (fun _ => none) []⟩, ⟨[5], fun | [xo5] => Ch.blk g2 [.int .i64 r3.1, (vg xo5 [1]), (vg xo5 [2])] 27 | _ => Ch.fr (fun _ => none) []⟩], base := [0, 1], pre := [[], [], [1], [], [1, 2, 3], [0, 1, 2, 3, 4], [0, 1, 2, 3, 4, 5]], fin := [(2, none)], left := [0, 2, 3, 4, 5, 6] } (by kernel_rfl) haq2 hsq2 (perm_sel [1, 0, 2] (m := 3) rfl rfl) (by kernel_rfl) (by kernel_rfl) ?_ ?_
  · exact ⟨Plan.goal_run fun vs hf => ⟨wants_none rfl, OpT.conv (OpT.evs (ev' := evL [(1, .pointer (some ⟨g1, 0, none⟩))]) (opT_load_blk (g := g1) (off := 0) (E := 27) (l := [.int .i64 p0a.1, va0, va1]) (d := [.int .i64 p0a.1, va0, va1]) (u := .agg #[.int .i64 p0a.1, va0, va1]) ti27 rfl rfl rfl rfl rfl rfl) rfl [.tmp 1] rfl ⟨rfl, trivial⟩) rfl (fun _ h => Eq.trans h rfl) (fun _ => rfl)⟩, Plan.goal_run fun vs hf => ⟨wants_none rfl, OpT.conv (OpT.evs (ev' := evL [(1, .pointer (some ⟨g1, 0, none⟩))]) (opT_load_blk (g := g1) (off := 0) (E := 27) (l := [.int .i64 p0a.1, va0, va1]) (d := [.int .i64 p0a.1, va0, va1]) (u := .agg #[.int .i64 p0a.1, va0, va1]) ti27 rfl rfl rfl rfl rfl rfl) rfl [.tmp 1] rfl ⟨rfl, trivial⟩) rfl (fun _ h => Eq.trans h rfl) (fun _ => rfl)⟩, Plan.goal_run fun vs hf => ⟨wants_none rfl, OpT.conv (OpT.evs (ev' := evL [(4, .agg #[.int .i64 p0a.1, va0, va1])]) (OpT.hdk (E := 3) (R := rInt) (xs := r1) (fun v => v) 0 (fun _ => rfl) (opT_call (args := #[.agg #[.int .i64 p0a.1, va0, va1]]) (first := #[]) (captured := #[]) en105 rfl rfl rfl (c_s_l12Classes (p0a.1, p0a.2.1, p0a.2.2) _ e1 va0 va1 ra0 ra1))) rfl [.func 105, .tmp 4] rfl ⟨rfl, (hf 1 (mb rfl)), trivial⟩) rfl (fun _ h => h.2) (fun _ => rfl)⟩, Plan.goal_run fun vs hf => ⟨wants_none rfl, OpT.conv (OpT.evs (ev' := evL [(1, .pointer (some ⟨g1, 0, none⟩))]) (opT_load_blk (g := g1) (off := 0) (E := 27) (l := [.int .i64 p0a.1, va0, va1]) (d := [.int .i64 p0a.1, va0, va1]) (u := .agg #[.int .i64 p0a.1, va0, va1]) ti27 rfl rfl rfl rfl rfl rfl) rfl [.tmp 1] rfl ⟨rfl, trivial⟩) rfl (fun _ h => Eq.trans h rfl) (fun _ => rfl)⟩, Plan.goal_run fun vs hf => ⟨wants_none rfl, OpT.conv (OpT.evs (ev' := evL [(6, .agg #[.int .i64 p0a.1, va0, va1])]) (OpT.hdk (E := 4) (R := rBool) (xs := r2) (fun v => v) 0 (fun _ => rfl) (opT_call (args := #[.agg #[.int .i64 p0a.1, va0, va1]]) (first := #[]) (captured := #[]) en48 rfl rfl rfl (c_s_l11Live (p0a.1, p0a.2.1, p0a.2.2) _ e2 va0 va1 ra0 ra1))) rfl [.func 48, .tmp 6] rfl ⟨rfl, (hf 3 (mb rfl)), trivial⟩) rfl (fun _ h => h.2) (fun _ => rfl)⟩, Plan.goal_run fun vs hf => ⟨wants_none rfl, OpT.conv (OpT.evs (ev' := evL [(3, .agg #[.int .i64 p0a.1, va0, va1]), (5, (vs 2)), (7, (vs 4))]) (OpT.comm (OpT.hdk (E := 4) (R := rBool) (xs := r3.2.1) (fun v => vg v [1]) 0 (fun _ => rfl) (OpT.hdk (E := 34) (R := rSlice 3 rInt) (xs := r3.2.2) (fun v => vg v [2]) 1 (fun _ => rfl) (OpT.lend (ls := [Ch.own (rSlice 3 rInt) [(vs 2)] r1, Ch.own (rSlice 4 rBool) [(vs 4)] r2]) (gv := fun v => [Ch.own (rSlice 4 rBool) [vg v [1]] r3.2.1, Ch.own (rSlice 34 (rSlice 3 rInt)) [vg v [2]] r3.2.2]) (fun _ => ⟨dp_own (dp_slice dp_bool), dp_own (dp_slice (dp_slice dp_int)), trivial⟩) fun J hJ hl hb => opT_call (args := #[.agg #[.int .i64 p0a.1, va0, va1], (vs 2), (vs 4)]) (first := #[]) (captured := #[]) en47 rfl rfl rfl (c_s_l11Number (p0a.1, p0a.2.1, p0a.2.2) r1 r2 _ e3 va0 va1 (vs 2) (vs 4) (Rep.rd_mono _ ra0 hJ) (Rep.rd_mono _ ra1 hJ) (hl _ _ _ (List.Mem.head _)) (hl _ _ _ (List.Mem.tail _ (List.Mem.head _)))))))) rfl [.func 47, .tmp 3, .tmp 5, .tmp 7] rfl ⟨rfl, (hf 0 (mb rfl)), rfl, rfl, trivial⟩) rfl (fun _ h => by obtain ⟨⟨h, k1⟩, k0⟩ := h; obtain ⟨_, _, rfl⟩ := h; exact ⟨rfl, k0, k1⟩) (fun _ => rfl)⟩, Plan.goal_run fun vs hf => ⟨wants_none rfl, OpT.conv (OpT.evs (ev' := evL [(2, .pointer (some ⟨g2, 0, none⟩)), (8, .agg #[.int .i64 r3.1, (vg (vs 5) [1]), (vg (vs 5) [2])])]) (opT_store_blk (g := g2) (off := 0) (l := [.int .i64 0, .slice none 0 0, .slice none 0 0]) (d := [.int .i64 r3.1, (vg (vs 5) [1]), (vg (vs 5) [2])]) (E := 27) (u := .agg #[.int .i64 r3.1, (vg (vs 5) [1]), (vg (vs 5) [2])]) ti27 rfl rfl rfl rfl rfl (allC rfl (allC (Hd.one (show Hd (vg (vs 5) [1]) (r3.2.1).length from (hf 5 (mb rfl)).2.1)) (allC (Hd.one (show Hd (vg (vs 5) [2]) (r3.2.2).length from (hf 5 (mb rfl)).2.2)) allN))) (Nat.le_of_ble_eq_true rfl)) rfl [.tmp 2, .tmp 8] rfl ⟨rfl, (hf 5 (mb rfl)).1, trivial⟩) rfl (fun _ _ => trivial) (fun _ => rfl)⟩, trivial⟩
  intro vs aq3 wq3 hf haq3 hsq3
  clear haq2 hsq2
  replace haq3 := haq3.pick' (L' := [(2, .pointer (some ⟨g2, 0, none⟩))]) ⟨rfl, trivial⟩
  replace hsq3 : St I w0 wq3 [Ch.blk g1 [.int .i64 p0a.1, va0, va1] 27, Ch.own (rSlice 3 rInt) [(vs 2)] r1, Ch.own (rSlice 4 rBool) [(vs 4)] r2, Ch.own (rSlice 4 rBool) [(vg (vs 5) [1])] r3.2.1, Ch.own (rSlice 34 (rSlice 3 rInt)) [(vg (vs 5) [2])] r3.2.2, Ch.blk g2 [.int .i64 r3.1, (vg (vs 5) [1]), (vg (vs 5) [2])] 27, F] := hsq3
  obtain ⟨v1, ea1⟩ : ∃ x, x = (vs 2) := ⟨_, rfl⟩
  try rw [← ea1] at haq3
  try rw [← ea1] at hsq3
  clear ea1
  obtain ⟨v2, ea2⟩ : ∃ x, x = (vs 4) := ⟨_, rfl⟩
  try rw [← ea2] at haq3
  try rw [← ea2] at hsq3
  clear ea2
  obtain ⟨v3, ea3⟩ : ∃ x, x = (vg (vs 5) [1]) := ⟨_, rfl⟩
  try rw [← ea3] at haq3
  try rw [← ea3] at hsq3
  clear ea3
  obtain ⟨v4, ea4⟩ : ∃ x, x = (vg (vs 5) [2]) := ⟨_, rfl⟩
  try rw [← ea4] at haq3
  try rw [← ea4] at hsq3
  clear ea4
  clear hf vs
  refine nrm ?_
  refine wp_ret ?_
  obtain rfl := Option.some.inj hm
  exact ret_1 haq3 rfl (res_cell (g := g2) haq3 rfl hsq3 5 rfl ti27 rfl) ⟨_, rfl, ⟨_, _, rfl⟩, _, Hp.le.rfl, St.sel (hsq3) 7 [3, 4, 6] rfl rfl⟩
set_option maxHeartbeats 8000000 in
theorem c_s_IsValidAutomaton (p0a : Int × (List Bool) × (List (List Int))) (r : Bool) (hm : m_s_IsValidAutomaton p0a = some r) {I : Hp} {w0 : World} (va0 : Value) (va1 : Value) (ra0 : (rSlice 4 rBool).rd I [va0] p0a.2.1) (ra1 : (rSlice 34 (rSlice 3 rInt)).rd I [va1] p0a.2.2) : Con Try.prog 46 #[.agg #[.int .i64 p0a.1, va0, va1]] I w0 [] (fun v => v = .bool r) (fun v => []) := by
  refine con_of_wp (n := 11) [(0, .agg #[.int .i64 p0a.1, va0, va1])] Try.func46 rfl rfl (Nat.le_of_ble_eq_true rfl) (args_all ⟨rfl, trivial⟩) (fun F w a ha hs => ?_) (fun v => trivial)
  unfold m_s_IsValidAutomaton at hm
  refine wp_seq ?_
  refine wp_region_lit ?_
  refine seq_op ha hs rfl (opT_box (u := .agg #[.int .i64 p0a.1, va0, va1]) (l := [.int .i64 p0a.1, va0, va1]) rfl rfl rfl) (List.Perm.refl _) rfl ?_
  rintro _ aq1 wq1 ⟨g1, rfl⟩ haq1 (hsq1 : St I w0 wq1 [Ch.blk g1 [.int .i64 p0a.1, va0, va1] 27, F])
  clear ha hs a w
  refine seq_op0 haq1 hsq1 (opT_assign (v := .bool false) rfl rfl) rfl rfl ?_
  rintro u aq2 wq2 hf haq2 hsq2
  obtain rfl := Eq.symm hf
  clear haq1 hsq1 aq1 wq1
  refine wpList_nil ?_
  replace haq2 := haq2.pick' (L' := [(1, .pointer (some ⟨g1, 0, none⟩))]) ⟨rfl, trivial⟩
  refine nrm ?_
  refine wp_seq ?_
  refine wp_region_lit ?_
  refine seq_op0 haq2 hsq2 (opT_field_addr (g := g1) (b := 0) tf27_1 rfl rfl) rfl rfl ?_
  rintro u aq3 wq3 hf haq3 hsq3
  obtain rfl := Eq.symm hf
  clear haq2 hsq2 aq2 wq2
  refine seq_op haq3 hsq3 rfl (opT_load_blk (g := g1) (off := 1) (E := 27) (l := [.int .i64 p0a.1, va0, va1]) (d := [va0]) (u := va0) ti22 rfl rfl rfl rfl rfl rfl) (perm_front (i := 0) rfl) rfl ?_
  rintro u aq4 wq4 hf haq4 (hsq4 : St I w0 wq4 [Ch.blk g1 [.int .i64 p0a.1, va0, va1] 27, F])
  obtain rfl := Eq.symm hf
  clear haq3 hsq3 aq3 wq3
  refine seq_op0 haq4 hsq4 (opT_len_hd (v := va0) (n := p0a.2.1.length) (Hd.of_rd ra0) Try.underlying22 rfl rfl) rfl rfl ?_
  rintro u aq5 wq5 hf haq5 hsq5
  obtain rfl := Eq.symm hf
  clear haq4 hsq4 aq4 wq4
  refine seq_op0 haq5 hsq5 (opT_cmp (k := .i64) (m := (p0a.2.1.length : Int)) (n := 12) (c := decide ((p0a.2.1.length : Int) ≤ 12)) rfl rfl rfl rfl rfl) rfl rfl ?_
  rintro u aq6 wq6 hf haq6 hsq6
  obtain rfl := Eq.symm hf
  clear haq5 hsq5 aq5 wq5
  refine seq_op0 haq6 hsq6 (opT_move (v := .bool (decide ((p0a.2.1.length : Int) ≤ 12))) rfl rfl) rfl rfl ?_
  rintro u aq7 wq7 hf haq7 hsq7
  obtain rfl := Eq.symm hf
  clear haq6 hsq6 aq6 wq6
  rcases two (decide ((p0a.2.1.length : Int) ≤ 12)) with hb1 | hb1
  · replace hm := ifFe hb1 hm
    refine seq_skip (g := 4) (d := 7) (want := true) (b := decide ((p0a.2.1.length : Int) ≤ 12)) haq7 hsq7 rfl rfl rfl hb1 rfl ?_
    intro aq8 haq8
    refine seq_skip (g := 4) (d := 7) (want := true) (b := decide ((p0a.2.1.length : Int) ≤ 12)) haq8 hsq7 rfl rfl rfl hb1 rfl ?_
    intro aq9 haq9
    refine seq_op0 haq9 hsq7 (opT_pick (b := decide ((p0a.2.1.length : Int) ≤ 12)) (v := .bool false) rfl rfl (ifF hb1)) rfl rfl ?_
    rintro u aq10 wq10 hf haq10 hsq10
    obtain rfl := Eq.symm hf
    clear haq9 hsq7 aq9 wq7
    refine seq_op0 haq10 hsq10 (opT_assign (v := .bool false) rfl rfl) rfl rfl ?_
    rintro u aq11 wq11 hf haq11 hsq11
    obtain rfl := Eq.symm hf
    clear haq10 hsq10 aq10 wq10
    refine wpList_nil ?_
    replace haq11 := haq11.pick' (L' := [(2, .bool false)]) ⟨rfl, trivial⟩
    refine nrm ?_
    refine wp_ret ?_
    obtain rfl := Option.some.inj hm
    exact ret_1 haq11 rfl (res_tmp haq11 rfl) ⟨_, rfl, rfl, _, Hp.le.rfl, St.sel (hsq11) 2 [1] rfl rfl⟩
  · replace hm := ifTe hb1 hm
    refine seq_op_g (g := 4) (d := 7) (want := true) (b := decide ((p0a.2.1.length : Int) ≤ 12)) haq7 hsq7 rfl rfl rfl hb1 (opT_load_blk (g := g1) (off := 0) (E := 27) (l := [.int .i64 p0a.1, va0, va1]) (d := [.int .i64 p0a.1, va0, va1]) (u := .agg #[.int .i64 p0a.1, va0, va1]) ti27 rfl rfl rfl rfl rfl rfl) (perm_front (i := 0) rfl) rfl ?_
    rintro u aq12 wq12 hf haq12 (hsq12 : St I w0 wq12 [Ch.blk g1 [.int .i64 p0a.1, va0, va1] 27, F])
    obtain rfl := Eq.symm hf
    clear haq7 hsq7 aq7 wq7
    obtain ⟨r1, e1, hm⟩ := bind_some hm
    refine seq_op_g0 (g := 4) (d := 7) (want := true) (b := decide ((p0a.2.1.length : Int) ≤ 12)) haq12 hsq12 rfl rfl rfl hb1 (opT_call (args := #[.agg #[.int .i64 p0a.1, va0, va1]]) (first := #[]) (captured := #[]) en92 rfl rfl rfl (c_s_l11Fits (p0a.1, p0a.2.1, p0a.2.2) _ e1 va0 va1 ra0 ra1)) rfl ?_
    rintro u aq13 wq13 hf haq13 hsq13
    obtain rfl := Eq.symm hf
    clear haq12 hsq12 aq12 wq12
    refine seq_op0 haq13 hsq13 (opT_pick (b := decide ((p0a.2.1.length : Int) ≤ 12)) (v := .bool r1) rfl rfl (ifT hb1)) rfl rfl ?_
    rintro u aq14 wq14 hf haq14 hsq14
    obtain rfl := Eq.symm hf
    clear haq13 hsq13 aq13 wq13
    refine seq_op0 haq14 hsq14 (opT_assign (v := .bool r1) rfl rfl) rfl rfl ?_
    rintro u aq15 wq15 hf haq15 hsq15
    obtain rfl := Eq.symm hf
    clear haq14 hsq14 aq14 wq14
    refine wpList_nil ?_
    replace haq15 := haq15.pick' (L' := [(2, .bool r1)]) ⟨rfl, trivial⟩
    refine nrm ?_
    refine wp_ret ?_
    obtain rfl := Option.some.inj hm
    exact ret_1 haq15 rfl (res_tmp haq15 rfl) ⟨_, rfl, rfl, _, Hp.le.rfl, St.sel (hsq15) 2 [1] rfl rfl⟩
end Go.Proofs.Ytcihbmdppgpmjaa.D
