/- Printed by dec.py: models of functions and the walks that show them. -/
import Derived.Test.YtcihbmdppgpmjaaEw0_0
import Derived.Test.YtcihbmdppgpmjaaEw0_1
import Derived.Test.YtcihbmdppgpmjaaEw0_3
import Derived.Test.YtcihbmdppgpmjaaEw1_1
import Derived.Test.YtcihbmdppgpmjaaEw1_2
import Derived.Test.YtcihbmdppgpmjaaEw1_3
set_option linter.unusedVariables false
set_option linter.unusedSimpArgs false
set_option linter.unnecessarySimpa false
set_option maxRecDepth 100000
namespace Go.Proofs.Ytcihbmdppgpmjaa.D
open Go.RowKit
set_option maxHeartbeats 8000000 in
theorem c_i_equalQueries (p0a : Int × ((List (Int × Int × Int × Int))) × Int) (p1b : Int × ((List (Int × Int × Int × Int))) × Int) (r : Bool) (hm : m_i_equalQueries p0a p1b = some r) {I : Hp} {w0 : World} (va0 : Value) (va1 : Value) (ra0 : (rSlice 197 (rProd rInt (rProd rInt (rProd rInt rInt)))).rd I [va0] p0a.2.1) (ra1 : (rSlice 197 (rProd rInt (rProd rInt (rProd rInt rInt)))).rd I [va1] p1b.2.1) : Con Try.prog 141 #[.agg #[.int .i64 p0a.1, va0, .int .i64 p0a.2.2], .agg #[.int .i64 p1b.1, va1, .int .i64 p1b.2.2]] I w0 [] (fun v => v = .bool r) (fun v => []) := by
  refine con_of_wp (n := 24) [(0, .agg #[.int .i64 p0a.1, va0, .int .i64 p0a.2.2]), (1, .agg #[.int .i64 p1b.1, va1, .int .i64 p1b.2.2])] Try.func141 rfl rfl (Nat.le_of_ble_eq_true rfl) (args_all ⟨rfl, rfl, trivial⟩) (fun F w a ha hs => ?_) (fun v => trivial)
  unfold m_i_equalQueries at hm
  refine wp_seq ?_
  refine wp_region_lit ?_
  refine seq_op ha hs rfl (opT_box (u := .agg #[.int .i64 p0a.1, va0, .int .i64 p0a.2.2]) (l := [.int .i64 p0a.1, va0, .int .i64 p0a.2.2]) rfl rfl rfl) (List.Perm.refl _) rfl ?_
  rintro _ aq1 wq1 ⟨g1, rfl⟩ haq1 (hsq1 : St I w0 wq1 [Ch.blk g1 [.int .i64 p0a.1, va0, .int .i64 p0a.2.2] 147, F])
  clear ha hs a w
  refine seq_op haq1 hsq1 rfl (opT_box (u := .agg #[.int .i64 p1b.1, va1, .int .i64 p1b.2.2]) (l := [.int .i64 p1b.1, va1, .int .i64 p1b.2.2]) rfl rfl rfl) (List.Perm.refl _) rfl ?_
  rintro _ aq2 wq2 ⟨g2, rfl⟩ haq2 (hsq2 : St I w0 wq2 [Ch.blk g2 [.int .i64 p1b.1, va1, .int .i64 p1b.2.2] 147, Ch.blk g1 [.int .i64 p0a.1, va0, .int .i64 p0a.2.2] 147, F])
  clear haq1 hsq1 aq1 wq1
  refine seq_op0 haq2 hsq2 (opT_assign (v := .bool false) rfl rfl) rfl rfl ?_
  rintro u aq3 wq3 hf haq3 hsq3
  obtain rfl := Eq.symm hf
  clear haq2 hsq2 aq2 wq2
  refine wpList_nil ?_
  replace haq3 := haq3.pick' (L' := [(2, .pointer (some ⟨g1, 0, none⟩)), (3, .pointer (some ⟨g2, 0, none⟩))]) ⟨rfl, rfl, trivial⟩
  refine nrm ?_
  refine wp_seq ?_
  refine wp_region_lit ?_
  refine seq_op0 haq3 hsq3 (opT_field_addr (g := g1) (b := 0) tf147_0 rfl rfl) rfl rfl ?_
  rintro u aq4 wq4 hf haq4 hsq4
  obtain rfl := Eq.symm hf
  clear haq3 hsq3 aq3 wq3
  refine seq_op haq4 hsq4 rfl (opT_load_blk (g := g1) (off := 0) (E := 147) (l := [.int .i64 p0a.1, va0, .int .i64 p0a.2.2]) (d := [.int .i64 p0a.1]) (u := .int .i64 p0a.1) ti3 rfl rfl rfl rfl rfl rfl) (perm_front (i := 1) rfl) rfl ?_
  rintro u aq5 wq5 hf haq5 (hsq5 : St I w0 wq5 [Ch.blk g1 [.int .i64 p0a.1, va0, .int .i64 p0a.2.2] 147, Ch.blk g2 [.int .i64 p1b.1, va1, .int .i64 p1b.2.2] 147, F])
  obtain rfl := Eq.symm hf
  clear haq4 hsq4 aq4 wq4
  refine seq_op0 haq5 hsq5 (opT_field_addr (g := g2) (b := 0) tf147_0 rfl rfl) rfl rfl ?_
  rintro u aq6 wq6 hf haq6 hsq6
  obtain rfl := Eq.symm hf
  clear haq5 hsq5 aq5 wq5
  refine seq_op haq6 hsq6 rfl (opT_load_blk (g := g2) (off := 0) (E := 147) (l := [.int .i64 p1b.1, va1, .int .i64 p1b.2.2]) (d := [.int .i64 p1b.1]) (u := .int .i64 p1b.1) ti3 rfl rfl rfl rfl rfl rfl) (perm_front (i := 1) rfl) rfl ?_
  rintro u aq7 wq7 hf haq7 (hsq7 : St I w0 wq7 [Ch.blk g2 [.int .i64 p1b.1, va1, .int .i64 p1b.2.2] 147, Ch.blk g1 [.int .i64 p0a.1, va0, .int .i64 p0a.2.2] 147, F])
  obtain rfl := Eq.symm hf
  clear haq6 hsq6 aq6 wq6
  refine seq_op0 haq7 hsq7 (opT_cmp (k := .i64) (m := p0a.1) (n := p1b.1) (c := p0a.1 == p1b.1) rfl rfl rfl rfl rfl) rfl rfl ?_
  rintro u aq8 wq8 hf haq8 hsq8
  obtain rfl := Eq.symm hf
  clear haq7 hsq7 aq7 wq7
  refine seq_op0 haq8 hsq8 (opT_move (v := .bool (p0a.1 == p1b.1)) rfl rfl) rfl rfl ?_
  rintro u aq9 wq9 hf haq9 hsq9
  obtain rfl := Eq.symm hf
  clear haq8 hsq8 aq8 wq8
  rcases two (p0a.1 == p1b.1) with hb1 | hb1
  · replace hm := ifFe hb1 hm
    refine seq_skip (g := 5) (d := 10) (want := true) (b := p0a.1 == p1b.1) haq9 hsq9 rfl rfl rfl hb1 rfl ?_
    intro aq10 haq10
    refine seq_skip (g := 5) (d := 10) (want := true) (b := p0a.1 == p1b.1) haq10 hsq9 rfl rfl rfl hb1 rfl ?_
    intro aq11 haq11
    refine seq_skip (g := 5) (d := 10) (want := true) (b := p0a.1 == p1b.1) haq11 hsq9 rfl rfl rfl hb1 rfl ?_
    intro aq12 haq12
    refine seq_skip (g := 5) (d := 10) (want := true) (b := p0a.1 == p1b.1) haq12 hsq9 rfl rfl rfl hb1 rfl ?_
    intro aq13 haq13
    refine seq_skip (g := 5) (d := 10) (want := true) (b := p0a.1 == p1b.1) haq13 hsq9 rfl rfl rfl hb1 rfl ?_
    intro aq14 haq14
    refine seq_op0 haq14 hsq9 (opT_pick (b := p0a.1 == p1b.1) (v := .bool false) rfl rfl (ifF hb1)) rfl rfl ?_
    rintro u aq15 wq15 hf haq15 hsq15
    obtain rfl := Eq.symm hf
    clear haq14 hsq9 aq14 wq9
    refine seq_op0 haq15 hsq15 (opT_move (v := .bool false) rfl rfl) rfl rfl ?_
    rintro u aq16 wq16 hf haq16 hsq16
    obtain rfl := Eq.symm hf
    clear haq15 hsq15 aq15 wq15
    refine seq_skip (g := 12) (d := 17) (want := true) (b := false) haq16 hsq16 rfl rfl rfl rfl rfl ?_
    intro aq17 haq17
    refine seq_skip (g := 12) (d := 17) (want := true) (b := false) haq17 hsq16 rfl rfl rfl rfl rfl ?_
    intro aq18 haq18
    refine seq_skip (g := 12) (d := 17) (want := true) (b := false) haq18 hsq16 rfl rfl rfl rfl rfl ?_
    intro aq19 haq19
    refine seq_skip (g := 12) (d := 17) (want := true) (b := false) haq19 hsq16 rfl rfl rfl rfl rfl ?_
    intro aq20 haq20
    refine seq_skip (g := 12) (d := 17) (want := true) (b := false) haq20 hsq16 rfl rfl rfl rfl rfl ?_
    intro aq21 haq21
    refine seq_op0 haq21 hsq16 (opT_pick (b := false) (v := .bool false) rfl rfl (ifF rfl)) rfl rfl ?_
    rintro u aq22 wq22 hf haq22 hsq22
    obtain rfl := Eq.symm hf
    clear haq21 hsq16 aq21 wq16
    refine seq_op0 haq22 hsq22 (opT_assign (v := .bool false) rfl rfl) rfl rfl ?_
    rintro u aq23 wq23 hf haq23 hsq23
    obtain rfl := Eq.symm hf
    clear haq22 hsq22 aq22 wq22
    refine wpList_nil ?_
    replace haq23 := haq23.pick' (L' := [(4, .bool false)]) ⟨rfl, trivial⟩
    refine nrm ?_
    refine wp_ret ?_
    obtain rfl := Option.some.inj hm
    exact ret_1 haq23 rfl (res_tmp haq23 rfl) ⟨_, rfl, rfl, _, Hp.le.rfl, St.sel (hsq23) 3 [2] rfl rfl⟩
  · replace hm := ifTe hb1 hm
    refine seq_op_g0 (g := 5) (d := 10) (want := true) (b := p0a.1 == p1b.1) haq9 hsq9 rfl rfl rfl hb1 (opT_field_addr (g := g1) (b := 0) tf147_1 rfl rfl) rfl ?_
    rintro u aq24 wq24 hf haq24 hsq24
    obtain rfl := Eq.symm hf
    clear haq9 hsq9 aq9 wq9
    refine seq_op_g (g := 5) (d := 10) (want := true) (b := p0a.1 == p1b.1) haq24 hsq24 rfl rfl rfl hb1 (opT_load_blk (g := g1) (off := 1) (E := 147) (l := [.int .i64 p0a.1, va0, .int .i64 p0a.2.2]) (d := [va0]) (u := .agg #[va0]) ti145 rfl rfl rfl rfl rfl rfl) (perm_front (i := 1) rfl) rfl ?_
    rintro u aq25 wq25 hf haq25 (hsq25 : St I w0 wq25 [Ch.blk g1 [.int .i64 p0a.1, va0, .int .i64 p0a.2.2] 147, Ch.blk g2 [.int .i64 p1b.1, va1, .int .i64 p1b.2.2] 147, F])
    obtain rfl := Eq.symm hf
    clear haq24 hsq24 aq24 wq24
    refine seq_op_g0 (g := 5) (d := 10) (want := true) (b := p0a.1 == p1b.1) haq25 hsq25 rfl rfl rfl hb1 (opT_field_addr (g := g2) (b := 0) tf147_1 rfl rfl) rfl ?_
    rintro u aq26 wq26 hf haq26 hsq26
    obtain rfl := Eq.symm hf
    clear haq25 hsq25 aq25 wq25
    refine seq_op_g (g := 5) (d := 10) (want := true) (b := p0a.1 == p1b.1) haq26 hsq26 rfl rfl rfl hb1 (opT_load_blk (g := g2) (off := 1) (E := 147) (l := [.int .i64 p1b.1, va1, .int .i64 p1b.2.2]) (d := [va1]) (u := .agg #[va1]) ti145 rfl rfl rfl rfl rfl rfl) (perm_front (i := 1) rfl) rfl ?_
    rintro u aq27 wq27 hf haq27 (hsq27 : St I w0 wq27 [Ch.blk g2 [.int .i64 p1b.1, va1, .int .i64 p1b.2.2] 147, Ch.blk g1 [.int .i64 p0a.1, va0, .int .i64 p0a.2.2] 147, F])
    obtain rfl := Eq.symm hf
    clear haq26 hsq26 aq26 wq26
    obtain ⟨r1, e1, hm⟩ := bind_some hm
    refine seq_op_g0 (g := 5) (d := 10) (want := true) (b := p0a.1 == p1b.1) haq27 hsq27 rfl rfl rfl hb1 (opT_call (args := #[.agg #[va0], .agg #[va1]]) (first := #[]) (captured := #[]) en169 rfl rfl rfl (c_i_EqualExprs p0a.2.1 p1b.2.1 _ e1 va0 va1 ra0 ra1)) rfl ?_
    rintro u aq28 wq28 hf haq28 hsq28
    obtain rfl := Eq.symm hf
    clear haq27 hsq27 aq27 wq27
    refine seq_op0 haq28 hsq28 (opT_pick (b := p0a.1 == p1b.1) (v := .bool r1) rfl rfl (ifT hb1)) rfl rfl ?_
    rintro u aq29 wq29 hf haq29 hsq29
    obtain rfl := Eq.symm hf
    clear haq28 hsq28 aq28 wq28
    refine seq_op0 haq29 hsq29 (opT_move (v := .bool r1) rfl rfl) rfl rfl ?_
    rintro u aq30 wq30 hf haq30 hsq30
    obtain rfl := Eq.symm hf
    clear haq29 hsq29 aq29 wq29
    rcases two (r1) with hb2 | hb2
    · replace hm := ifFe hb2 hm
      refine seq_skip (g := 12) (d := 17) (want := true) (b := r1) haq30 hsq30 rfl rfl rfl hb2 rfl ?_
      intro aq31 haq31
      refine seq_skip (g := 12) (d := 17) (want := true) (b := r1) haq31 hsq30 rfl rfl rfl hb2 rfl ?_
      intro aq32 haq32
      refine seq_skip (g := 12) (d := 17) (want := true) (b := r1) haq32 hsq30 rfl rfl rfl hb2 rfl ?_
      intro aq33 haq33
      refine seq_skip (g := 12) (d := 17) (want := true) (b := r1) haq33 hsq30 rfl rfl rfl hb2 rfl ?_
      intro aq34 haq34
      refine seq_skip (g := 12) (d := 17) (want := true) (b := r1) haq34 hsq30 rfl rfl rfl hb2 rfl ?_
      intro aq35 haq35
      refine seq_op0 haq35 hsq30 (opT_pick (b := r1) (v := .bool false) rfl rfl (ifF hb2)) rfl rfl ?_
      rintro u aq36 wq36 hf haq36 hsq36
      obtain rfl := Eq.symm hf
      clear haq35 hsq30 aq35 wq30
      refine seq_op0 haq36 hsq36 (opT_assign (v := .bool false) rfl rfl) rfl rfl ?_
      rintro u aq37 wq37 hf haq37 hsq37
      obtain rfl := Eq.symm hf
      clear haq36 hsq36 aq36 wq36
      refine wpList_nil ?_
      replace haq37 := haq37.pick' (L' := [(4, .bool false)]) ⟨rfl, trivial⟩
      refine nrm ?_
      refine wp_ret ?_
      obtain rfl := Option.some.inj hm
      exact ret_1 haq37 rfl (res_tmp haq37 rfl) ⟨_, rfl, rfl, _, Hp.le.rfl, St.sel (hsq37) 3 [2] rfl rfl⟩
    · replace hm := ifTe hb2 hm
      refine seq_op_g0 (g := 12) (d := 17) (want := true) (b := r1) haq30 hsq30 rfl rfl rfl hb2 (opT_field_addr (g := g1) (b := 0) tf147_2 rfl rfl) rfl ?_
      rintro u aq38 wq38 hf haq38 hsq38
      obtain rfl := Eq.symm hf
      clear haq30 hsq30 aq30 wq30
      refine seq_op_g (g := 12) (d := 17) (want := true) (b := r1) haq38 hsq38 rfl rfl rfl hb2 (opT_load_blk (g := g1) (off := 2) (E := 147) (l := [.int .i64 p0a.1, va0, .int .i64 p0a.2.2]) (d := [.int .i64 p0a.2.2]) (u := .int .i64 p0a.2.2) ti3 rfl rfl rfl rfl rfl rfl) (perm_front (i := 1) rfl) rfl ?_
      rintro u aq39 wq39 hf haq39 (hsq39 : St I w0 wq39 [Ch.blk g1 [.int .i64 p0a.1, va0, .int .i64 p0a.2.2] 147, Ch.blk g2 [.int .i64 p1b.1, va1, .int .i64 p1b.2.2] 147, F])
      obtain rfl := Eq.symm hf
      clear haq38 hsq38 aq38 wq38
      refine seq_op_g0 (g := 12) (d := 17) (want := true) (b := r1) haq39 hsq39 rfl rfl rfl hb2 (opT_field_addr (g := g2) (b := 0) tf147_2 rfl rfl) rfl ?_
      rintro u aq40 wq40 hf haq40 hsq40
      obtain rfl := Eq.symm hf
      clear haq39 hsq39 aq39 wq39
      refine seq_op_g (g := 12) (d := 17) (want := true) (b := r1) haq40 hsq40 rfl rfl rfl hb2 (opT_load_blk (g := g2) (off := 2) (E := 147) (l := [.int .i64 p1b.1, va1, .int .i64 p1b.2.2]) (d := [.int .i64 p1b.2.2]) (u := .int .i64 p1b.2.2) ti3 rfl rfl rfl rfl rfl rfl) (perm_front (i := 1) rfl) rfl ?_
      rintro u aq41 wq41 hf haq41 (hsq41 : St I w0 wq41 [Ch.blk g2 [.int .i64 p1b.1, va1, .int .i64 p1b.2.2] 147, Ch.blk g1 [.int .i64 p0a.1, va0, .int .i64 p0a.2.2] 147, F])
      obtain rfl := Eq.symm hf
      clear haq40 hsq40 aq40 wq40
      refine seq_op_g0 (g := 12) (d := 17) (want := true) (b := r1) haq41 hsq41 rfl rfl rfl hb2 (opT_cmp (k := .i64) (m := p0a.2.2) (n := p1b.2.2) (c := p0a.2.2 == p1b.2.2) rfl rfl rfl rfl rfl) rfl ?_
      rintro u aq42 wq42 hf haq42 hsq42
      obtain rfl := Eq.symm hf
      clear haq41 hsq41 aq41 wq41
      refine seq_op0 haq42 hsq42 (opT_pick (b := r1) (v := .bool (p0a.2.2 == p1b.2.2)) rfl rfl (ifT hb2)) rfl rfl ?_
      rintro u aq43 wq43 hf haq43 hsq43
      obtain rfl := Eq.symm hf
      clear haq42 hsq42 aq42 wq42
      refine seq_op0 haq43 hsq43 (opT_assign (v := .bool (p0a.2.2 == p1b.2.2)) rfl rfl) rfl rfl ?_
      rintro u aq44 wq44 hf haq44 hsq44
      obtain rfl := Eq.symm hf
      clear haq43 hsq43 aq43 wq43
      refine wpList_nil ?_
      replace haq44 := haq44.pick' (L' := [(4, .bool (p0a.2.2 == p1b.2.2))]) ⟨rfl, trivial⟩
      refine nrm ?_
      refine wp_ret ?_
      obtain rfl := Option.some.inj hm
      exact ret_1 haq44 rfl (res_tmp haq44 rfl) ⟨_, rfl, rfl, _, Hp.le.rfl, St.sel (hsq44) 3 [2] rfl rfl⟩
set_option maxHeartbeats 8000000 in
theorem c_i_EqualAutomata (p0a : Int × (List Bool) × (List (List Int))) (p1b : Int × (List Bool) × (List (List Int))) (r : Bool) (hm : m_i_EqualAutomata p0a p1b = some r) {I : Hp} {w0 : World} (va0 : Value) (va1 : Value) (va2 : Value) (va3 : Value) (ra0 : (rSlice 4 rBool).rd I [va0] p0a.2.1) (ra1 : (rSlice 34 (rSlice 3 rInt)).rd I [va1] p0a.2.2) (ra2 : (rSlice 4 rBool).rd I [va2] p1b.2.1) (ra3 : (rSlice 34 (rSlice 3 rInt)).rd I [va3] p1b.2.2) : Con Try.prog 61 #[.agg #[.int .i64 p0a.1, va0, va1], .agg #[.int .i64 p1b.1, va2, va3]] I w0 [] (fun v => v = .bool r) (fun v => []) := by
  refine con_of_wp (n := 24) [(0, .agg #[.int .i64 p0a.1, va0, va1]), (1, .agg #[.int .i64 p1b.1, va2, va3])] Try.func61 rfl rfl (Nat.le_of_ble_eq_true rfl) (args_all ⟨rfl, rfl, trivial⟩) (fun F w a ha hs => ?_) (fun v => trivial)
  unfold m_i_EqualAutomata at hm
  refine wp_seq ?_
  refine wp_region_lit ?_
  refine seq_op ha hs rfl (opT_box (u := .agg #[.int .i64 p0a.1, va0, va1]) (l := [.int .i64 p0a.1, va0, va1]) rfl rfl rfl) (List.Perm.refl _) rfl ?_
  rintro _ aq1 wq1 ⟨g1, rfl⟩ haq1 (hsq1 : St I w0 wq1 [Ch.blk g1 [.int .i64 p0a.1, va0, va1] 27, F])
  clear ha hs a w
  refine seq_op haq1 hsq1 rfl (opT_box (u := .agg #[.int .i64 p1b.1, va2, va3]) (l := [.int .i64 p1b.1, va2, va3]) rfl rfl rfl) (List.Perm.refl _) rfl ?_
  rintro _ aq2 wq2 ⟨g2, rfl⟩ haq2 (hsq2 : St I w0 wq2 [Ch.blk g2 [.int .i64 p1b.1, va2, va3] 27, Ch.blk g1 [.int .i64 p0a.1, va0, va1] 27, F])
  clear haq1 hsq1 aq1 wq1
  refine seq_op0 haq2 hsq2 (opT_assign (v := .bool false) rfl rfl) rfl rfl ?_
  rintro u aq3 wq3 hf haq3 hsq3
  obtain rfl := Eq.symm hf
  clear haq2 hsq2 aq2 wq2
  refine wpList_nil ?_
  replace haq3 := haq3.pick' (L' := [(2, .pointer (some ⟨g1, 0, none⟩)), (3, .pointer (some ⟨g2, 0, none⟩))]) ⟨rfl, rfl, trivial⟩
  refine nrm ?_
  refine wp_seq ?_
  refine wp_region_lit ?_
  refine seq_op0 haq3 hsq3 (opT_field_addr (g := g1) (b := 0) tf27_0 rfl rfl) rfl rfl ?_
  rintro u aq4 wq4 hf haq4 hsq4
  obtain rfl := Eq.symm hf
  clear haq3 hsq3 aq3 wq3
  refine seq_op haq4 hsq4 rfl (opT_load_blk (g := g1) (off := 0) (E := 27) (l := [.int .i64 p0a.1, va0, va1]) (d := [.int .i64 p0a.1]) (u := .int .i64 p0a.1) ti3 rfl rfl rfl rfl rfl rfl) (perm_front (i := 1) rfl) rfl ?_
  rintro u aq5 wq5 hf haq5 (hsq5 : St I w0 wq5 [Ch.blk g1 [.int .i64 p0a.1, va0, va1] 27, Ch.blk g2 [.int .i64 p1b.1, va2, va3] 27, F])
  obtain rfl := Eq.symm hf
  clear haq4 hsq4 aq4 wq4
  refine seq_op0 haq5 hsq5 (opT_field_addr (g := g2) (b := 0) tf27_0 rfl rfl) rfl rfl ?_
  rintro u aq6 wq6 hf haq6 hsq6
  obtain rfl := Eq.symm hf
  clear haq5 hsq5 aq5 wq5
  refine seq_op haq6 hsq6 rfl (opT_load_blk (g := g2) (off := 0) (E := 27) (l := [.int .i64 p1b.1, va2, va3]) (d := [.int .i64 p1b.1]) (u := .int .i64 p1b.1) ti3 rfl rfl rfl rfl rfl rfl) (perm_front (i := 1) rfl) rfl ?_
  rintro u aq7 wq7 hf haq7 (hsq7 : St I w0 wq7 [Ch.blk g2 [.int .i64 p1b.1, va2, va3] 27, Ch.blk g1 [.int .i64 p0a.1, va0, va1] 27, F])
  obtain rfl := Eq.symm hf
  clear haq6 hsq6 aq6 wq6
  refine seq_op0 haq7 hsq7 (opT_cmp (k := .i64) (m := p0a.1) (n := p1b.1) (c := p0a.1 == p1b.1) rfl rfl rfl rfl rfl) rfl rfl ?_
  rintro u aq8 wq8 hf haq8 hsq8
  obtain rfl := Eq.symm hf
  clear haq7 hsq7 aq7 wq7
  refine seq_op0 haq8 hsq8 (opT_move (v := .bool (p0a.1 == p1b.1)) rfl rfl) rfl rfl ?_
  rintro u aq9 wq9 hf haq9 hsq9
  obtain rfl := Eq.symm hf
  clear haq8 hsq8 aq8 wq8
  rcases two (p0a.1 == p1b.1) with hb1 | hb1
  · replace hm := ifFe hb1 hm
    refine seq_skip (g := 5) (d := 10) (want := true) (b := p0a.1 == p1b.1) haq9 hsq9 rfl rfl rfl hb1 rfl ?_
    intro aq10 haq10
    refine seq_skip (g := 5) (d := 10) (want := true) (b := p0a.1 == p1b.1) haq10 hsq9 rfl rfl rfl hb1 rfl ?_
    intro aq11 haq11
    refine seq_skip (g := 5) (d := 10) (want := true) (b := p0a.1 == p1b.1) haq11 hsq9 rfl rfl rfl hb1 rfl ?_
    intro aq12 haq12
    refine seq_skip (g := 5) (d := 10) (want := true) (b := p0a.1 == p1b.1) haq12 hsq9 rfl rfl rfl hb1 rfl ?_
    intro aq13 haq13
    refine seq_skip (g := 5) (d := 10) (want := true) (b := p0a.1 == p1b.1) haq13 hsq9 rfl rfl rfl hb1 rfl ?_
    intro aq14 haq14
    refine seq_op0 haq14 hsq9 (opT_pick (b := p0a.1 == p1b.1) (v := .bool false) rfl rfl (ifF hb1)) rfl rfl ?_
    rintro u aq15 wq15 hf haq15 hsq15
    obtain rfl := Eq.symm hf
    clear haq14 hsq9 aq14 wq9
    refine seq_op0 haq15 hsq15 (opT_move (v := .bool false) rfl rfl) rfl rfl ?_
    rintro u aq16 wq16 hf haq16 hsq16
    obtain rfl := Eq.symm hf
    clear haq15 hsq15 aq15 wq15
    refine seq_skip (g := 12) (d := 17) (want := true) (b := false) haq16 hsq16 rfl rfl rfl rfl rfl ?_
    intro aq17 haq17
    refine seq_skip (g := 12) (d := 17) (want := true) (b := false) haq17 hsq16 rfl rfl rfl rfl rfl ?_
    intro aq18 haq18
    refine seq_skip (g := 12) (d := 17) (want := true) (b := false) haq18 hsq16 rfl rfl rfl rfl rfl ?_
    intro aq19 haq19
    refine seq_skip (g := 12) (d := 17) (want := true) (b := false) haq19 hsq16 rfl rfl rfl rfl rfl ?_
    intro aq20 haq20
    refine seq_skip (g := 12) (d := 17) (want := true) (b := false) haq20 hsq16 rfl rfl rfl rfl rfl ?_
    intro aq21 haq21
    refine seq_op0 haq21 hsq16 (opT_pick (b := false) (v := .bool false) rfl rfl (ifF rfl)) rfl rfl ?_
    rintro u aq22 wq22 hf haq22 hsq22
    obtain rfl := Eq.symm hf
    clear haq21 hsq16 aq21 wq16
    refine seq_op0 haq22 hsq22 (opT_assign (v := .bool false) rfl rfl) rfl rfl ?_
    rintro u aq23 wq23 hf haq23 hsq23
    obtain rfl := Eq.symm hf
    clear haq22 hsq22 aq22 wq22
    refine wpList_nil ?_
    replace haq23 := haq23.pick' (L' := [(4, .bool false)]) ⟨rfl, trivial⟩
    refine nrm ?_
    refine wp_ret ?_
    obtain rfl := Option.some.inj hm
    exact ret_1 haq23 rfl (res_tmp haq23 rfl) ⟨_, rfl, rfl, _, Hp.le.rfl, St.sel (hsq23) 3 [2] rfl rfl⟩
  · replace hm := ifTe hb1 hm
    refine seq_op_g0 (g := 5) (d := 10) (want := true) (b := p0a.1 == p1b.1) haq9 hsq9 rfl rfl rfl hb1 (opT_field_addr (g := g1) (b := 0) tf27_1 rfl rfl) rfl ?_
    rintro u aq24 wq24 hf haq24 hsq24
    obtain rfl := Eq.symm hf
    clear haq9 hsq9 aq9 wq9
    refine seq_op_g (g := 5) (d := 10) (want := true) (b := p0a.1 == p1b.1) haq24 hsq24 rfl rfl rfl hb1 (opT_load_blk (g := g1) (off := 1) (E := 27) (l := [.int .i64 p0a.1, va0, va1]) (d := [va0]) (u := va0) ti22 rfl rfl rfl rfl rfl rfl) (perm_front (i := 1) rfl) rfl ?_
    rintro u aq25 wq25 hf haq25 (hsq25 : St I w0 wq25 [Ch.blk g1 [.int .i64 p0a.1, va0, va1] 27, Ch.blk g2 [.int .i64 p1b.1, va2, va3] 27, F])
    obtain rfl := Eq.symm hf
    clear haq24 hsq24 aq24 wq24
    refine seq_op_g0 (g := 5) (d := 10) (want := true) (b := p0a.1 == p1b.1) haq25 hsq25 rfl rfl rfl hb1 (opT_field_addr (g := g2) (b := 0) tf27_1 rfl rfl) rfl ?_
    rintro u aq26 wq26 hf haq26 hsq26
    obtain rfl := Eq.symm hf
    clear haq25 hsq25 aq25 wq25
    refine seq_op_g (g := 5) (d := 10) (want := true) (b := p0a.1 == p1b.1) haq26 hsq26 rfl rfl rfl hb1 (opT_load_blk (g := g2) (off := 1) (E := 27) (l := [.int .i64 p1b.1, va2, va3]) (d := [va2]) (u := va2) ti22 rfl rfl rfl rfl rfl rfl) (perm_front (i := 1) rfl) rfl ?_
    rintro u aq27 wq27 hf haq27 (hsq27 : St I w0 wq27 [Ch.blk g2 [.int .i64 p1b.1, va2, va3] 27, Ch.blk g1 [.int .i64 p0a.1, va0, va1] 27, F])
    obtain rfl := Eq.symm hf
    clear haq26 hsq26 aq26 wq26
    obtain ⟨r1, e1, hm⟩ := bind_some hm
    refine seq_op_g0 (g := 5) (d := 10) (want := true) (b := p0a.1 == p1b.1) haq27 hsq27 rfl rfl rfl hb1 (opT_call (args := #[va0, va2]) (first := #[]) (captured := #[]) en106 rfl rfl rfl (c_g_slices_Equal_S_bool_bool p0a.2.1 p1b.2.1 _ e1 va0 va2 ra0 ra2)) rfl ?_
    rintro u aq28 wq28 hf haq28 hsq28
    obtain rfl := Eq.symm hf
    clear haq27 hsq27 aq27 wq27
    refine seq_op0 haq28 hsq28 (opT_pick (b := p0a.1 == p1b.1) (v := .bool r1) rfl rfl (ifT hb1)) rfl rfl ?_
    rintro u aq29 wq29 hf haq29 hsq29
    obtain rfl := Eq.symm hf
    clear haq28 hsq28 aq28 wq28
    refine seq_op0 haq29 hsq29 (opT_move (v := .bool r1) rfl rfl) rfl rfl ?_
    rintro u aq30 wq30 hf haq30 hsq30
    obtain rfl := Eq.symm hf
    clear haq29 hsq29 aq29 wq29
    rcases two (r1) with hb2 | hb2
    · replace hm := ifFe hb2 hm
      refine seq_skip (g := 12) (d := 17) (want := true) (b := r1) haq30 hsq30 rfl rfl rfl hb2 rfl ?_
      intro aq31 haq31
      refine seq_skip (g := 12) (d := 17) (want := true) (b := r1) haq31 hsq30 rfl rfl rfl hb2 rfl ?_
      intro aq32 haq32
      refine seq_skip (g := 12) (d := 17) (want := true) (b := r1) haq32 hsq30 rfl rfl rfl hb2 rfl ?_
      intro aq33 haq33
      refine seq_skip (g := 12) (d := 17) (want := true) (b := r1) haq33 hsq30 rfl rfl rfl hb2 rfl ?_
      intro aq34 haq34
      refine seq_skip (g := 12) (d := 17) (want := true) (b := r1) haq34 hsq30 rfl rfl rfl hb2 rfl ?_
      intro aq35 haq35
      refine seq_op0 haq35 hsq30 (opT_pick (b := r1) (v := .bool false) rfl rfl (ifF hb2)) rfl rfl ?_
      rintro u aq36 wq36 hf haq36 hsq36
      obtain rfl := Eq.symm hf
      clear haq35 hsq30 aq35 wq30
      refine seq_op0 haq36 hsq36 (opT_assign (v := .bool false) rfl rfl) rfl rfl ?_
      rintro u aq37 wq37 hf haq37 hsq37
      obtain rfl := Eq.symm hf
      clear haq36 hsq36 aq36 wq36
      refine wpList_nil ?_
      replace haq37 := haq37.pick' (L' := [(4, .bool false)]) ⟨rfl, trivial⟩
      refine nrm ?_
      refine wp_ret ?_
      obtain rfl := Option.some.inj hm
      exact ret_1 haq37 rfl (res_tmp haq37 rfl) ⟨_, rfl, rfl, _, Hp.le.rfl, St.sel (hsq37) 3 [2] rfl rfl⟩
    · replace hm := ifTe hb2 hm
      refine seq_op_g0 (g := 12) (d := 17) (want := true) (b := r1) haq30 hsq30 rfl rfl rfl hb2 (opT_field_addr (g := g1) (b := 0) tf27_2 rfl rfl) rfl ?_
      rintro u aq38 wq38 hf haq38 hsq38
      obtain rfl := Eq.symm hf
      clear haq30 hsq30 aq30 wq30
      refine seq_op_g (g := 12) (d := 17) (want := true) (b := r1) haq38 hsq38 rfl rfl rfl hb2 (opT_load_blk (g := g1) (off := 2) (E := 27) (l := [.int .i64 p0a.1, va0, va1]) (d := [va1]) (u := va1) ti23 rfl rfl rfl rfl rfl rfl) (perm_front (i := 1) rfl) rfl ?_
      rintro u aq39 wq39 hf haq39 (hsq39 : St I w0 wq39 [Ch.blk g1 [.int .i64 p0a.1, va0, va1] 27, Ch.blk g2 [.int .i64 p1b.1, va2, va3] 27, F])
      obtain rfl := Eq.symm hf
      clear haq38 hsq38 aq38 wq38
      refine seq_op_g0 (g := 12) (d := 17) (want := true) (b := r1) haq39 hsq39 rfl rfl rfl hb2 (opT_field_addr (g := g2) (b := 0) tf27_2 rfl rfl) rfl ?_
      rintro u aq40 wq40 hf haq40 hsq40
      obtain rfl := Eq.symm hf
      clear haq39 hsq39 aq39 wq39
      refine seq_op_g (g := 12) (d := 17) (want := true) (b := r1) haq40 hsq40 rfl rfl rfl hb2 (opT_load_blk (g := g2) (off := 2) (E := 27) (l := [.int .i64 p1b.1, va2, va3]) (d := [va3]) (u := va3) ti23 rfl rfl rfl rfl rfl rfl) (perm_front (i := 1) rfl) rfl ?_
      rintro u aq41 wq41 hf haq41 (hsq41 : St I w0 wq41 [Ch.blk g2 [.int .i64 p1b.1, va2, va3] 27, Ch.blk g1 [.int .i64 p0a.1, va0, va1] 27, F])
      obtain rfl := Eq.symm hf
      clear haq40 hsq40 aq40 wq40
      obtain ⟨r2, e2, hm⟩ := bind_some hm
      refine seq_op_g0 (g := 12) (d := 17) (want := true) (b := r1) haq41 hsq41 rfl rfl rfl hb2 (opT_call (args := #[va1, va3, .func (.func 108) #[] #[]]) (first := #[]) (captured := #[]) en107 rfl rfl rfl (c_g_slices_EqualFunc_S_S_int_S_S_int_S_int_S_int p0a.2.2 p1b.2.2 (fun a0 a1 => m_i_EqualAutomata_1 a0 a1) _ e2 va1 va3 (.func (.func 108) #[] #[]) ra1 ra3 ⟨isFn, fun J1 hJ1 b1_0 b1_1 r hm k1_0 k1_1 l1_0 l1_1 => ⟨108, #[], #[], rfl, en108, c_i_EqualAutomata_1 b1_0 b1_1 _ hm k1_0 k1_1 l1_0 l1_1⟩⟩)) rfl ?_
      rintro u aq42 wq42 hf haq42 hsq42
      obtain rfl := Eq.symm hf
      clear haq41 hsq41 aq41 wq41
      refine seq_op0 haq42 hsq42 (opT_pick (b := r1) (v := .bool r2) rfl rfl (ifT hb2)) rfl rfl ?_
      rintro u aq43 wq43 hf haq43 hsq43
      obtain rfl := Eq.symm hf
      clear haq42 hsq42 aq42 wq42
      refine seq_op0 haq43 hsq43 (opT_assign (v := .bool r2) rfl rfl) rfl rfl ?_
      rintro u aq44 wq44 hf haq44 hsq44
      obtain rfl := Eq.symm hf
      clear haq43 hsq43 aq43 wq43
      refine wpList_nil ?_
      replace haq44 := haq44.pick' (L' := [(4, .bool r2)]) ⟨rfl, trivial⟩
      refine nrm ?_
      refine wp_ret ?_
      obtain rfl := Option.some.inj hm
      exact ret_1 haq44 rfl (res_tmp haq44 rfl) ⟨_, rfl, rfl, _, Hp.le.rfl, St.sel (hsq44) 3 [2] rfl rfl⟩
set_option maxHeartbeats 8000000 in
theorem c_w_szAutomaton (p0a : Int × (List Bool) × (List (List Int))) (p1left : Int) (r : Int) (hm : m_w_szAutomaton p0a p1left = some r) {I : Hp} {w0 : World} (va0 : Value) (va1 : Value) (ra0 : (rSlice 4 rBool).rd I [va0] p0a.2.1) (ra1 : (rSlice 34 (rSlice 3 rInt)).rd I [va1] p0a.2.2) : Con Try.prog 12 #[.agg #[.int .i64 p0a.1, va0, va1], .int .i64 p1left] I w0 [] (fun v => v = .int .i64 r) (fun v => []) := by
  refine con_of_wp (n := 18) [(0, .agg #[.int .i64 p0a.1, va0, va1]), (1, .int .i64 p1left)] Try.func12 rfl rfl (Nat.le_of_ble_eq_true rfl) (args_all ⟨rfl, rfl, trivial⟩) (fun F w a ha hs => ?_) (fun v => trivial)
  unfold m_w_szAutomaton at hm
  refine wp_seq ?_
  refine wp_region_lit ?_
  refine seq_op ha hs rfl (opT_box (u := .agg #[.int .i64 p0a.1, va0, va1]) (l := [.int .i64 p0a.1, va0, va1]) rfl rfl rfl) (List.Perm.refl _) rfl ?_
  rintro _ aq1 wq1 ⟨g1, rfl⟩ haq1 (hsq1 : St I w0 wq1 [Ch.blk g1 [.int .i64 p0a.1, va0, va1] 25, F])
  clear ha hs a w
  refine seq_op0 haq1 hsq1 (opT_assign (v := .int .i64 0) rfl rfl) rfl rfl ?_
  rintro u aq2 wq2 hf haq2 hsq2
  obtain rfl := Eq.symm hf
  clear haq1 hsq1 aq1 wq1
  refine wpList_nil ?_
  replace haq2 := haq2.pick' (L' := [(1, .int .i64 p1left), (2, .pointer (some ⟨g1, 0, none⟩))]) ⟨rfl, rfl, trivial⟩
  refine nrm ?_
  refine wp_seq ?_
  refine wp_region_lit ?_
  refine seq_op0 haq2 hsq2 (opT_field_addr (g := g1) (b := 0) tf25_1 rfl rfl) rfl rfl ?_
  rintro u aq3 wq3 hf haq3 hsq3
  obtain rfl := Eq.symm hf
  clear haq2 hsq2 aq2 wq2
  refine seq_op haq3 hsq3 rfl (opT_load_blk (g := g1) (off := 1) (E := 25) (l := [.int .i64 p0a.1, va0, va1]) (d := [va0]) (u := va0) ti22 rfl rfl rfl rfl rfl rfl) (perm_front (i := 0) rfl) rfl ?_
  rintro u aq4 wq4 hf haq4 (hsq4 : St I w0 wq4 [Ch.blk g1 [.int .i64 p0a.1, va0, va1] 25, F])
  obtain rfl := Eq.symm hf
  clear haq3 hsq3 aq3 wq3
  refine seq_op0 haq4 hsq4 (opT_move (v := .int .i64 p1left) rfl rfl) rfl rfl ?_
  rintro u aq5 wq5 hf haq5 hsq5
  obtain rfl := Eq.symm hf
  clear haq4 hsq4 aq4 wq4
  obtain ⟨r1, e1, hm⟩ := bind_some hm
  refine seq_op0 haq5 hsq5 (opT_call (args := #[va0, .int .i64 p1left]) (first := #[]) (captured := #[]) en44 rfl rfl rfl (c_w_szBoolS p0a.2.1 p1left _ e1 va0 ra0)) rfl rfl ?_
  rintro u aq6 wq6 hf haq6 hsq6
  obtain rfl := Eq.symm hf
  clear haq5 hsq5 aq5 wq5
  refine seq_op0 haq6 hsq6 (opT_assign (v := .int .i64 r1) rfl rfl) rfl rfl ?_
  rintro u aq7 wq7 hf haq7 hsq7
  obtain rfl := Eq.symm hf
  clear haq6 hsq6 aq6 wq6
  refine wpList_nil ?_
  replace haq7 := haq7.pick' (L' := [(1, .int .i64 r1), (2, .pointer (some ⟨g1, 0, none⟩))]) ⟨rfl, rfl, trivial⟩
  refine nrm ?_
  refine wp_seq ?_
  refine wp_seq ?_
  refine wp_region_lit ?_
  refine seq_op0 haq7 hsq7 (opT_move (v := .int .i64 r1) rfl rfl) rfl rfl ?_
  rintro u aq8 wq8 hf haq8 hsq8
  obtain rfl := Eq.symm hf
  clear haq7 hsq7 aq7 wq7
  refine seq_op0 haq8 hsq8 (opT_cmp (k := .i64) (m := r1) (n := 0) (c := decide (r1 < 0)) rfl rfl rfl rfl rfl) rfl rfl ?_
  rintro u aq9 wq9 hf haq9 hsq9
  obtain rfl := Eq.symm hf
  clear haq8 hsq8 aq8 wq8
  refine wpList_nil ?_
  replace haq9 := haq9.pick' (L' := [(1, .int .i64 r1), (2, .pointer (some ⟨g1, 0, none⟩)), (10, .bool (decide (r1 < 0)))]) ⟨rfl, rfl, rfl, trivial⟩
  refine nrm ?_
  rcases two (decide (r1 < 0)) with hb1 | hb1
  · replace hm := ifFe hb1 hm
    refine cnd_false (b := decide (r1 < 0)) haq9 rfl rfl hb1 ?_
    refine wp_skip ?_
    refine nrm ?_
    refine wp_seq ?_
    refine wp_region_lit ?_
    refine seq_op0 haq9 hsq9 (opT_field_addr (g := g1) (b := 0) tf25_2 rfl rfl) rfl rfl ?_
    rintro u aq10 wq10 hf haq10 hsq10
    obtain rfl := Eq.symm hf
    clear haq9 hsq9 aq9 wq9
    refine seq_op haq10 hsq10 rfl (opT_load_blk (g := g1) (off := 2) (E := 25) (l := [.int .i64 p0a.1, va0, va1]) (d := [va1]) (u := va1) ti23 rfl rfl rfl rfl rfl rfl) (perm_front (i := 0) rfl) rfl ?_
    rintro u aq11 wq11 hf haq11 (hsq11 : St I w0 wq11 [Ch.blk g1 [.int .i64 p0a.1, va0, va1] 25, F])
    obtain rfl := Eq.symm hf
    clear haq10 hsq10 aq10 wq10
    refine seq_op0 haq11 hsq11 (opT_move (v := .int .i64 r1) rfl rfl) rfl rfl ?_
    rintro u aq12 wq12 hf haq12 hsq12
    obtain rfl := Eq.symm hf
    clear haq11 hsq11 aq11 wq11
    obtain ⟨r2, e2, hm⟩ := bind_some hm
    refine seq_op0 haq12 hsq12 (opT_call (args := #[va1, .int .i64 r1]) (first := #[]) (captured := #[]) en45 rfl rfl rfl (c_w_szIntSS p0a.2.2 r1 _ e2 va1 ra1)) rfl rfl ?_
    rintro u aq13 wq13 hf haq13 hsq13
    obtain rfl := Eq.symm hf
    clear haq12 hsq12 aq12 wq12
    refine seq_op0 haq13 hsq13 (opT_assign (v := .int .i64 r2) rfl rfl) rfl rfl ?_
    rintro u aq14 wq14 hf haq14 hsq14
    obtain rfl := Eq.symm hf
    clear haq13 hsq13 aq13 wq13
    refine wpList_nil ?_
    replace haq14 := haq14.pick' (L' := [(1, .int .i64 r2)]) ⟨rfl, trivial⟩
    refine nrm ?_
    refine wp_seq ?_
    refine wp_seq ?_
    refine wp_region_lit ?_
    refine seq_op0 haq14 hsq14 (opT_move (v := .int .i64 r2) rfl rfl) rfl rfl ?_
    rintro u aq15 wq15 hf haq15 hsq15
    obtain rfl := Eq.symm hf
    clear haq14 hsq14 aq14 wq14
    refine seq_op0 haq15 hsq15 (opT_cmp (k := .i64) (m := r2) (n := 0) (c := decide (r2 < 0)) rfl rfl rfl rfl rfl) rfl rfl ?_
    rintro u aq16 wq16 hf haq16 hsq16
    obtain rfl := Eq.symm hf
    clear haq15 hsq15 aq15 wq15
    refine wpList_nil ?_
    replace haq16 := haq16.pick' (L' := [(1, .int .i64 r2), (16, .bool (decide (r2 < 0)))]) ⟨rfl, rfl, trivial⟩
    refine nrm ?_
    rcases two (decide (r2 < 0)) with hb2 | hb2
    · replace hm := ifFe hb2 hm
      refine cnd_false (b := decide (r2 < 0)) haq16 rfl rfl hb2 ?_
      refine wp_skip ?_
      refine nrm ?_
      refine wp_seq ?_
      refine wp_region_lit ?_
      refine seq_op0 haq16 hsq16 (opT_move (v := .int .i64 r2) rfl rfl) rfl rfl ?_
      rintro u aq17 wq17 hf haq17 hsq17
      obtain rfl := Eq.symm hf
      clear haq16 hsq16 aq16 wq16
      refine seq_op0 haq17 hsq17 (opT_assign (v := .int .i64 r2) rfl rfl) rfl rfl ?_
      rintro u aq18 wq18 hf haq18 hsq18
      obtain rfl := Eq.symm hf
      clear haq17 hsq17 aq17 wq17
      refine wpList_nil ?_
      replace haq18 := haq18.pick' (L' := [(4, .int .i64 r2)]) ⟨rfl, trivial⟩
      refine nrm ?_
      refine wp_ret ?_
      obtain rfl := Option.some.inj hm
      exact ret_1 haq18 rfl (res_tmp haq18 rfl) ⟨_, rfl, rfl, _, Hp.le.rfl, St.sel (hsq18) 2 [1] rfl rfl⟩
    · replace hm := ifTe hb2 hm
      refine cnd_true (b := decide (r2 < 0)) haq16 rfl rfl hb2 ?_
      refine wp_seq ?_
      refine wp_region_lit ?_
      refine seq_op0 haq16 hsq16 (opT_assign (v := .int .i64 (-1)) rfl rfl) rfl rfl ?_
      rintro u aq19 wq19 hf haq19 hsq19
      obtain rfl := Eq.symm hf
      clear haq16 hsq16 aq16 wq16
      refine wpList_nil ?_
      replace haq19 := haq19.pick' (L' := [(4, .int .i64 (-1))]) ⟨rfl, trivial⟩
      refine nrm ?_
      refine wp_ret ?_
      refine thenR ?_
      obtain rfl := Option.some.inj hm
      exact ret_1 haq19 rfl (res_tmp haq19 rfl) ⟨_, rfl, rfl, _, Hp.le.rfl, St.sel (hsq19) 2 [1] rfl rfl⟩
  · replace hm := ifTe hb1 hm
    refine cnd_true (b := decide (r1 < 0)) haq9 rfl rfl hb1 ?_
    refine wp_seq ?_
    refine wp_region_lit ?_
    refine seq_op0 haq9 hsq9 (opT_assign (v := .int .i64 (-1)) rfl rfl) rfl rfl ?_
    rintro u aq20 wq20 hf haq20 hsq20
    obtain rfl := Eq.symm hf
    clear haq9 hsq9 aq9 wq9
    refine wpList_nil ?_
    replace haq20 := haq20.pick' (L' := [(4, .int .i64 (-1))]) ⟨rfl, trivial⟩
    refine nrm ?_
    refine wp_ret ?_
    refine thenR ?_
    obtain rfl := Option.some.inj hm
    exact ret_1 haq20 rfl (res_tmp haq20 rfl) ⟨_, rfl, rfl, _, Hp.le.rfl, St.sel (hsq20) 2 [1] rfl rfl⟩
set_option maxHeartbeats 8000000 in
theorem c_w_toExpr (p0a : (List (Int × Int × Int × Int))) (r : (List (Int × Int × Int × Int))) (hm : m_w_toExpr p0a = some r) {I : Hp} {w0 : World} (va0 : Value) (ra0 : (rSlice 222 (rProd rInt (rProd rInt (rProd rInt rInt)))).rd I [va0] p0a) : Con Try.prog 184 #[.agg #[va0]] I w0 [] (fun v => ∃ h0 : Value, v = .agg #[h0]) (fun v => [Ch.own (rSlice 197 (rProd rInt (rProd rInt (rProd rInt rInt)))) [vg v [0]] r]) := by
  refine con_of_wp (n := 9) [(0, .agg #[va0])] Try.func184 rfl rfl (Nat.le_of_ble_eq_true rfl) (args_all ⟨rfl, trivial⟩) (fun F w a ha hs => ?_) (fun v => ⟨dp_own (dp_slice (dp_prod dp_int (dp_prod dp_int (dp_prod dp_int dp_int)))), trivial⟩)
  unfold m_w_toExpr at hm
  refine wp_seq ?_
  refine wp_region_lit ?_
  refine seq_op ha hs rfl (opT_box (u := .agg #[va0]) (l := [va0]) rfl rfl rfl) (List.Perm.refl _) rfl ?_
  rintro _ aq1 wq1 ⟨g1, rfl⟩ haq1 (hsq1 : St I w0 wq1 [Ch.blk g1 [va0] 193, F])
  clear ha hs a w
  refine seq_op haq1 hsq1 rfl (opT_alloc (l := [.slice none 0 0]) tz145 rfl rfl) (List.Perm.refl _) rfl ?_
  rintro _ aq2 wq2 ⟨g2, rfl⟩ haq2 (hsq2 : St I w0 wq2 [Ch.blk g2 [.slice none 0 0] 145, Ch.blk g1 [va0] 193, F])
  clear haq1 hsq1 aq1 wq1
  refine wpList_nil ?_
  replace haq2 := haq2.pick' (L' := [(1, .pointer (some ⟨g1, 0, none⟩)), (2, .pointer (some ⟨g2, 0, none⟩))]) ⟨rfl, rfl, trivial⟩
  refine nrm ?_
  refine wp_seq ?_
  refine wp_region_lit ?_
  refine seq_op haq2 hsq2 rfl (opT_alloc (l := [.slice none 0 0]) tz145 rfl rfl) (List.Perm.refl _) rfl ?_
  rintro _ aq3 wq3 ⟨g3, rfl⟩ haq3 (hsq3 : St I w0 wq3 [Ch.blk g3 [.slice none 0 0] 145, Ch.blk g2 [.slice none 0 0] 145, Ch.blk g1 [va0] 193, F])
  clear haq2 hsq2 aq2 wq2
  refine wpList_nil ?_
  replace haq3 := haq3.pick' (L' := [(1, .pointer (some ⟨g1, 0, none⟩)), (2, .pointer (some ⟨g2, 0, none⟩)), (3, .pointer (some ⟨g3, 0, none⟩))]) ⟨rfl, rfl, rfl, trivial⟩
  refine nrm ?_
  refine wp_seq ?_
  refine wp_region_lit ?_
  refine seq_op0 haq3 hsq3 (opT_field_addr (g := g1) (b := 0) tf193_0 rfl rfl) rfl rfl ?_
  rintro u aq4 wq4 hf haq4 hsq4
  obtain rfl := Eq.symm hf
  clear haq3 hsq3 aq3 wq3
  refine seq_op haq4 hsq4 rfl (opT_load_blk (g := g1) (off := 0) (E := 193) (l := [va0]) (d := [va0]) (u := va0) ti191 rfl rfl rfl rfl rfl rfl) (perm_front (i := 2) rfl) rfl ?_
  rintro u aq5 wq5 hf haq5 (hsq5 : St I w0 wq5 [Ch.blk g1 [va0] 193, Ch.blk g3 [.slice none 0 0] 145, Ch.blk g2 [.slice none 0 0] 145, F])
  obtain rfl := Eq.symm hf
  clear haq4 hsq4 aq4 wq4
  obtain ⟨r1, e1, hm⟩ := bind_some hm
  refine seq_op haq5 hsq5 rfl (opT_call (args := #[va0]) (first := #[]) (captured := #[]) en191 rfl rfl rfl (c_w_toTokenS p0a _ e1 va0 ra0)) (List.Perm.refl _) rfl ?_
  rintro v1 aq6 wq6 - haq6 (hsq6 : St I w0 wq6 [Ch.own (rSlice 197 (rProd rInt (rProd rInt (rProd rInt rInt)))) [v1] r1, Ch.blk g1 [va0] 193, Ch.blk g3 [.slice none 0 0] 145, Ch.blk g2 [.slice none 0 0] 145, F])
  clear haq5 hsq5 aq5 wq5
  refine seq_op0 haq6 hsq6 (opT_field_addr (g := g3) (b := 0) tf145_0 rfl rfl) rfl rfl ?_
  rintro u aq7 wq7 hf haq7 hsq7
  obtain rfl := Eq.symm hf
  clear haq6 hsq6 aq6 wq6
  refine seq_op haq7 hsq7 rfl (opT_store_blk (g := g3) (off := 0) (l := [.slice none 0 0]) (d := [v1]) (E := 145) (u := v1) ti143 rfl rfl rfl (Hd.cells (St.hd hsq7 0 rfl).1) rfl (allC (Hd.one (St.hd hsq7 0 rfl).1) allN) (Nat.le_of_ble_eq_true rfl)) (perm_front (i := 2) rfl) rfl ?_
  rintro _ aq8 wq8 - haq8 (hsq8 : St I w0 wq8 [Ch.blk g3 [v1] 145, Ch.own (rSlice 197 (rProd rInt (rProd rInt (rProd rInt rInt)))) [v1] r1, Ch.blk g1 [va0] 193, Ch.blk g2 [.slice none 0 0] 145, F])
  clear haq7 hsq7 aq7 wq7
  refine wpList_nil ?_
  replace haq8 := haq8.pick' (L' := [(2, .pointer (some ⟨g2, 0, none⟩)), (3, .pointer (some ⟨g3, 0, none⟩))]) ⟨rfl, rfl, trivial⟩
  refine nrm ?_
  refine wp_seq ?_
  refine wp_region_lit ?_
  refine seq_op haq8 hsq8 rfl (opT_load_blk (g := g3) (off := 0) (E := 145) (l := [v1]) (d := [v1]) (u := .agg #[v1]) ti145 rfl rfl rfl rfl rfl rfl) (perm_front (i := 0) rfl) rfl ?_
  rintro u aq9 wq9 hf haq9 (hsq9 : St I w0 wq9 [Ch.blk g3 [v1] 145, Ch.own (rSlice 197 (rProd rInt (rProd rInt (rProd rInt rInt)))) [v1] r1, Ch.blk g1 [va0] 193, Ch.blk g2 [.slice none 0 0] 145, F])
  obtain rfl := Eq.symm hf
  clear haq8 hsq8 aq8 wq8
  refine seq_op haq9 hsq9 rfl (opT_store_blk (g := g2) (off := 0) (l := [.slice none 0 0]) (d := [v1]) (E := 145) (u := .agg #[v1]) ti145 rfl rfl rfl rfl rfl (allC (Hd.one (St.hd hsq9 1 rfl).1) allN) (Nat.le_of_ble_eq_true rfl)) (perm_front (i := 3) rfl) rfl ?_
  rintro _ aq10 wq10 - haq10 (hsq10 : St I w0 wq10 [Ch.blk g2 [v1] 145, Ch.blk g3 [v1] 145, Ch.own (rSlice 197 (rProd rInt (rProd rInt (rProd rInt rInt)))) [v1] r1, Ch.blk g1 [va0] 193, F])
  clear haq9 hsq9 aq9 wq9
  refine wpList_nil ?_
  replace haq10 := haq10.pick' (L' := [(2, .pointer (some ⟨g2, 0, none⟩))]) ⟨rfl, trivial⟩
  refine nrm ?_
  refine wp_ret ?_
  obtain rfl := Option.some.inj hm
  exact ret_1 haq10 rfl (res_cell (g := g2) haq10 rfl hsq10 0 rfl ti145 rfl) ⟨_, rfl, ⟨_, rfl⟩, _, Hp.le.rfl, St.sel (hsq10) 5 [2, 4] rfl rfl⟩
set_option maxHeartbeats 8000000 in
theorem c_w_szRegistered (p0a : Int × ((List (Int × Int × Int × Int))) × Int) (p1left : Int) (r : Int) (hm : m_w_szRegistered p0a p1left = some r) {I : Hp} {w0 : World} (va0 : Value) (ra0 : (rSlice 222 (rProd rInt (rProd rInt (rProd rInt rInt)))).rd I [va0] p0a.2.1) : Con Try.prog 166 #[.agg #[.int .i64 p0a.1, va0, .int .i64 p0a.2.2], .int .i64 p1left] I w0 [] (fun v => v = .int .i64 r) (fun v => []) := by
  refine con_of_wp (n := 12) [(0, .agg #[.int .i64 p0a.1, va0, .int .i64 p0a.2.2]), (1, .int .i64 p1left)] Try.func166 rfl rfl (Nat.le_of_ble_eq_true rfl) (args_all ⟨rfl, rfl, trivial⟩) (fun F w a ha hs => ?_) (fun v => trivial)
  unfold m_w_szRegistered at hm
  refine wp_seq ?_
  refine wp_region_lit ?_
  refine seq_op ha hs rfl (opT_box (u := .agg #[.int .i64 p0a.1, va0, .int .i64 p0a.2.2]) (l := [.int .i64 p0a.1, va0, .int .i64 p0a.2.2]) rfl rfl rfl) (List.Perm.refl _) rfl ?_
  rintro _ aq1 wq1 ⟨g1, rfl⟩ haq1 (hsq1 : St I w0 wq1 [Ch.blk g1 [.int .i64 p0a.1, va0, .int .i64 p0a.2.2] 195, F])
  clear ha hs a w
  refine seq_op0 haq1 hsq1 (opT_assign (v := .int .i64 0) rfl rfl) rfl rfl ?_
  rintro u aq2 wq2 hf haq2 hsq2
  obtain rfl := Eq.symm hf
  clear haq1 hsq1 aq1 wq1
  refine wpList_nil ?_
  replace haq2 := haq2.pick' (L' := [(1, .int .i64 p1left), (2, .pointer (some ⟨g1, 0, none⟩))]) ⟨rfl, rfl, trivial⟩
  refine nrm ?_
  refine wp_seq ?_
  refine wp_region_lit ?_
  refine seq_op0 haq2 hsq2 (opT_field_addr (g := g1) (b := 0) tf195_1 rfl rfl) rfl rfl ?_
  rintro u aq3 wq3 hf haq3 hsq3
  obtain rfl := Eq.symm hf
  clear haq2 hsq2 aq2 wq2
  refine seq_op haq3 hsq3 rfl (opT_load_blk (g := g1) (off := 1) (E := 195) (l := [.int .i64 p0a.1, va0, .int .i64 p0a.2.2]) (d := [va0]) (u := .agg #[va0]) ti193 rfl rfl rfl rfl rfl rfl) (perm_front (i := 0) rfl) rfl ?_
  rintro u aq4 wq4 hf haq4 (hsq4 : St I w0 wq4 [Ch.blk g1 [.int .i64 p0a.1, va0, .int .i64 p0a.2.2] 195, F])
  obtain rfl := Eq.symm hf
  clear haq3 hsq3 aq3 wq3
  refine seq_op0 haq4 hsq4 (opT_move (v := .int .i64 p1left) rfl rfl) rfl rfl ?_
  rintro u aq5 wq5 hf haq5 hsq5
  obtain rfl := Eq.symm hf
  clear haq4 hsq4 aq4 wq4
  obtain ⟨r1, e1, hm⟩ := bind_some hm
  refine seq_op0 haq5 hsq5 (opT_call (args := #[.agg #[va0], .int .i64 p1left]) (first := #[]) (captured := #[]) en183 rfl rfl rfl (c_w_szExpr p0a.2.1 p1left _ e1 va0 ra0)) rfl rfl ?_
  rintro u aq6 wq6 hf haq6 hsq6
  obtain rfl := Eq.symm hf
  clear haq5 hsq5 aq5 wq5
  refine seq_op0 haq6 hsq6 (opT_assign (v := .int .i64 r1) rfl rfl) rfl rfl ?_
  rintro u aq7 wq7 hf haq7 hsq7
  obtain rfl := Eq.symm hf
  clear haq6 hsq6 aq6 wq6
  refine wpList_nil ?_
  replace haq7 := haq7.pick' (L' := [(1, .int .i64 r1)]) ⟨rfl, trivial⟩
  refine nrm ?_
  refine wp_seq ?_
  refine wp_seq ?_
  refine wp_region_lit ?_
  refine seq_op0 haq7 hsq7 (opT_move (v := .int .i64 r1) rfl rfl) rfl rfl ?_
  rintro u aq8 wq8 hf haq8 hsq8
  obtain rfl := Eq.symm hf
  clear haq7 hsq7 aq7 wq7
  refine seq_op0 haq8 hsq8 (opT_cmp (k := .i64) (m := r1) (n := 0) (c := decide (r1 < 0)) rfl rfl rfl rfl rfl) rfl rfl ?_
  rintro u aq9 wq9 hf haq9 hsq9
  obtain rfl := Eq.symm hf
  clear haq8 hsq8 aq8 wq8
  refine wpList_nil ?_
  replace haq9 := haq9.pick' (L' := [(1, .int .i64 r1), (10, .bool (decide (r1 < 0)))]) ⟨rfl, rfl, trivial⟩
  refine nrm ?_
  rcases two (decide (r1 < 0)) with hb1 | hb1
  · replace hm := ifFe hb1 hm
    refine cnd_false (b := decide (r1 < 0)) haq9 rfl rfl hb1 ?_
    refine wp_skip ?_
    refine nrm ?_
    refine wp_seq ?_
    refine wp_region_lit ?_
    refine seq_op0 haq9 hsq9 (opT_move (v := .int .i64 r1) rfl rfl) rfl rfl ?_
    rintro u aq10 wq10 hf haq10 hsq10
    obtain rfl := Eq.symm hf
    clear haq9 hsq9 aq9 wq9
    refine seq_op0 haq10 hsq10 (opT_assign (v := .int .i64 r1) rfl rfl) rfl rfl ?_
    rintro u aq11 wq11 hf haq11 hsq11
    obtain rfl := Eq.symm hf
    clear haq10 hsq10 aq10 wq10
    refine wpList_nil ?_
    replace haq11 := haq11.pick' (L' := [(4, .int .i64 r1)]) ⟨rfl, trivial⟩
    refine nrm ?_
    refine wp_ret ?_
    obtain rfl := Option.some.inj hm
    exact ret_1 haq11 rfl (res_tmp haq11 rfl) ⟨_, rfl, rfl, _, Hp.le.rfl, St.sel (hsq11) 2 [1] rfl rfl⟩
  · replace hm := ifTe hb1 hm
    refine cnd_true (b := decide (r1 < 0)) haq9 rfl rfl hb1 ?_
    refine wp_seq ?_
    refine wp_region_lit ?_
    refine seq_op0 haq9 hsq9 (opT_assign (v := .int .i64 (-1)) rfl rfl) rfl rfl ?_
    rintro u aq12 wq12 hf haq12 hsq12
    obtain rfl := Eq.symm hf
    clear haq9 hsq9 aq9 wq9
    refine wpList_nil ?_
    replace haq12 := haq12.pick' (L' := [(4, .int .i64 (-1))]) ⟨rfl, trivial⟩
    refine nrm ?_
    refine wp_ret ?_
    refine thenR ?_
    obtain rfl := Option.some.inj hm
    exact ret_1 haq12 rfl (res_tmp haq12 rfl) ⟨_, rfl, rfl, _, Hp.le.rfl, St.sel (hsq12) 2 [1] rfl rfl⟩
end Go.Proofs.Ytcihbmdppgpmjaa.D
