/- Printed by dec.py: models of functions and the walks that show them. -/
import Derived.Test.YtcihbmdppgpmjaaTw0_1
import Derived.Test.YtcihbmdppgpmjaaTw1_1
import Derived.Test.YtcihbmdppgpmjaaTw1_2
set_option linter.unusedVariables false
set_option linter.unusedSimpArgs false
set_option linter.unnecessarySimpa false
set_option maxRecDepth 100000
namespace Go.Proofs.Ytcihbmdppgpmjaa.D
open Go.RowKit
set_option maxHeartbeats 8000000 in
theorem c_i_Automaton_move (p0a : Int × (List Bool) × (List (List Int))) (p1s : Int) (p2letter : Int) (r : Int) (hm : m_i_Automaton_move p0a p1s p2letter = some r) {I : Hp} {w0 : World} (va0 : Value) (va1 : Value) (ra0 : (rSlice 4 rBool).rd I [va0] p0a.2.1) (ra1 : (rSlice 34 (rSlice 3 rInt)).rd I [va1] p0a.2.2) : Con Try.prog 101 #[.agg #[.int .i64 p0a.1, va0, va1], .int .i64 p1s, .int .i64 p2letter] I w0 [] (fun v => v = .int .i64 r) (fun v => []) := by
  refine con_of_wp (n := 22) [(0, .agg #[.int .i64 p0a.1, va0, va1]), (1, .int .i64 p1s), (2, .int .i64 p2letter)] Try.func101 rfl rfl (Nat.le_of_ble_eq_true rfl) (args_all ⟨rfl, rfl, rfl, trivial⟩) (fun F w a ha hs => ?_) (fun v => trivial)
  unfold m_i_Automaton_move at hm
  refine wp_seq ?_
  refine wp_region_lit ?_
  refine seq_op ha hs rfl (opT_box (u := .agg #[.int .i64 p0a.1, va0, va1]) (l := [.int .i64 p0a.1, va0, va1]) rfl rfl rfl) (List.Perm.refl _) rfl ?_
  rintro _ aq1 wq1 ⟨g1, rfl⟩ haq1 (hsq1 : St I w0 wq1 [Ch.blk g1 [.int .i64 p0a.1, va0, va1] 27, F])
  clear ha hs a w
  refine seq_op0 haq1 hsq1 (opT_assign (v := .int .i64 0) rfl rfl) rfl rfl ?_
  rintro u aq2 wq2 hf haq2 hsq2
  obtain rfl := Eq.symm hf
  clear haq1 hsq1 aq1 wq1
  refine wpList_nil ?_
  replace haq2 := haq2.pick' (L' := [(1, .int .i64 p1s), (2, .int .i64 p2letter), (3, .pointer (some ⟨g1, 0, none⟩))]) ⟨rfl, rfl, rfl, trivial⟩
  refine nrm ?_
  refine wp_seq ?_
  refine wp_seq ?_
  refine wp_region_lit ?_
  refine seq_op0 haq2 hsq2 (opT_move (v := .int .i64 p1s) rfl rfl) rfl rfl ?_
  rintro u aq3 wq3 hf haq3 hsq3
  obtain rfl := Eq.symm hf
  clear haq2 hsq2 aq2 wq2
  refine seq_op0 haq3 hsq3 (opT_cmp (k := .i64) (m := p1s) (n := 0) (c := decide (p1s < 0)) rfl rfl rfl rfl rfl) rfl rfl ?_
  rintro u aq4 wq4 hf haq4 hsq4
  obtain rfl := Eq.symm hf
  clear haq3 hsq3 aq3 wq3
  refine seq_op0 haq4 hsq4 (opT_move (v := .bool (decide (p1s < 0))) rfl rfl) rfl rfl ?_
  rintro u aq5 wq5 hf haq5 hsq5
  obtain rfl := Eq.symm hf
  clear haq4 hsq4 aq4 wq4
  rcases two (decide (p1s < 0)) with hb1 | hb1
  · replace hm := ifFe hb1 hm
    refine seq_op_g0 (g := 2) (d := 9) (want := false) (b := decide (p1s < 0)) haq5 hsq5 rfl rfl rfl hb1 (opT_move (v := .int .i64 p2letter) rfl rfl) rfl ?_
    rintro u aq6 wq6 hf haq6 hsq6
    obtain rfl := Eq.symm hf
    clear haq5 hsq5 aq5 wq5
    obtain ⟨r1, e1, hm⟩ := bind_some hm
    refine seq_op_g0 (g := 2) (d := 9) (want := false) (b := decide (p1s < 0)) haq6 hsq6 rfl rfl rfl hb1 (opT_call (args := #[.int .i64 p2letter]) (first := #[]) (captured := #[]) en149 rfl rfl rfl (c_i_isLetter p2letter _ e1  )) rfl ?_
    rintro u aq7 wq7 hf haq7 hsq7
    obtain rfl := Eq.symm hf
    clear haq6 hsq6 aq6 wq6
    refine seq_op_g0 (g := 2) (d := 9) (want := false) (b := decide (p1s < 0)) haq7 hsq7 rfl rfl rfl hb1 (opT_not (b := r1) rfl rfl) rfl ?_
    rintro u aq8 wq8 hf haq8 hsq8
    obtain rfl := Eq.symm hf
    clear haq7 hsq7 aq7 wq7
    refine seq_op0 haq8 hsq8 (opT_pick (b := decide (p1s < 0)) (v := .bool (!r1)) rfl rfl (ifF hb1)) rfl rfl ?_
    rintro u aq9 wq9 hf haq9 hsq9
    obtain rfl := Eq.symm hf
    clear haq8 hsq8 aq8 wq8
    refine wpList_nil ?_
    replace haq9 := haq9.pick' (L' := [(1, .int .i64 p1s), (2, .int .i64 p2letter), (3, .pointer (some ⟨g1, 0, none⟩)), (13, .bool (!r1))]) ⟨rfl, rfl, rfl, rfl, trivial⟩
    refine nrm ?_
    rcases two (r1) with hb2 | hb2
    · replace hm := ifFe hb2 hm
      refine cnd_true (b := !r1) haq9 rfl rfl (notT hb2) ?_
      refine wp_seq ?_
      refine wp_region_lit ?_
      refine seq_op0 haq9 hsq9 (opT_assign (v := .int .i64 (-1)) rfl rfl) rfl rfl ?_
      rintro u aq10 wq10 hf haq10 hsq10
      obtain rfl := Eq.symm hf
      clear haq9 hsq9 aq9 wq9
      refine wpList_nil ?_
      replace haq10 := haq10.pick' (L' := [(6, .int .i64 (-1))]) ⟨rfl, trivial⟩
      refine nrm ?_
      refine wp_ret ?_
      refine thenR ?_
      obtain rfl := Option.some.inj hm
      exact ret_1 haq10 rfl (res_tmp haq10 rfl) ⟨_, rfl, rfl, _, Hp.le.rfl, St.sel (hsq10) 2 [1] rfl rfl⟩
    · replace hm := ifTe hb2 hm
      refine cnd_false (b := !r1) haq9 rfl rfl (notF hb2) ?_
      refine wp_skip ?_
      refine nrm ?_
      refine wp_seq ?_
      refine wp_region_lit ?_
      refine seq_op0 haq9 hsq9 (opT_field_addr (g := g1) (b := 0) tf27_2 rfl rfl) rfl rfl ?_
      rintro u aq11 wq11 hf haq11 hsq11
      obtain rfl := Eq.symm hf
      clear haq9 hsq9 aq9 wq9
      refine seq_op haq11 hsq11 rfl (opT_load_blk (g := g1) (off := 2) (E := 27) (l := [.int .i64 p0a.1, va0, va1]) (d := [va1]) (u := va1) ti23 rfl rfl rfl rfl rfl rfl) (perm_front (i := 0) rfl) rfl ?_
      rintro u aq12 wq12 hf haq12 (hsq12 : St I w0 wq12 [Ch.blk g1 [.int .i64 p0a.1, va0, va1] 27, F])
      obtain rfl := Eq.symm hf
      clear haq11 hsq11 aq11 wq11
      refine seq_op0 haq12 hsq12 (opT_move (v := .int .i64 p1s) rfl rfl) rfl rfl ?_
      rintro u aq13 wq13 hf haq13 hsq13
      obtain rfl := Eq.symm hf
      clear haq12 hsq12 aq12 wq12
      obtain ⟨x1, e2, hm⟩ := bind_some hm
      refine seq_op0 haq13 hsq13 (opT_index_hd (xs := p0a.2.2) (i := p1s) (n := 1) (Hd.of_rd ra1) Try.underlying23 ti34 rfl rfl rfl (getI_in e2)) rfl rfl ?_
      rintro u aq14 wq14 hf haq14 hsq14
      obtain rfl := Eq.symm hf
      clear haq13 hsq13 aq13 wq13
      refine seq_op0 haq14 hsq14 (opT_load_el (S := rSlice 3 rInt) (xs := p0a.2.2) (a := x1) (i := p1s) (k := 1) (off := 0) (f := fun (x : List Int) => x) ra1 e2 Fld.self ti34 rfl rfl rfl rfl rfl) rfl rfl ?_
      rintro v1 aq15 wq15 hf haq15 hsq15
      have r2 := lds_sl hf
      clear hf
      clear haq14 hsq14 aq14 wq14
      refine seq_op0 haq15 hsq15 (opT_move (v := .int .i64 p2letter) rfl rfl) rfl rfl ?_
      rintro u aq16 wq16 hf haq16 hsq16
      obtain rfl := Eq.symm hf
      clear haq15 hsq15 aq15 wq15
      obtain ⟨x2, e3, hm⟩ := bind_some hm
      refine seq_op0 haq16 hsq16 (opT_index_hd (xs := x1) (i := p2letter) (n := 1) (Hd.of_rd r2) Try.underlying34 ti3 rfl rfl rfl (getI_in e3)) rfl rfl ?_
      rintro u aq17 wq17 hf haq17 hsq17
      obtain rfl := Eq.symm hf
      clear haq16 hsq16 aq16 wq16
      refine seq_op0 haq17 hsq17 (opT_load_el (S := rInt) (xs := x1) (a := x2) (i := p2letter) (k := 1) (off := 0) (f := fun (x : Int) => x) r2 e3 Fld.self ti3 rfl rfl rfl rfl rfl) rfl rfl ?_
      rintro u aq18 wq18 hf haq18 hsq18
      obtain rfl := lds_one hf
      clear haq17 hsq17 aq17 wq17
      refine seq_op0 haq18 hsq18 (opT_assign (v := .int .i64 x2) rfl rfl) rfl rfl ?_
      rintro u aq19 wq19 hf haq19 hsq19
      obtain rfl := Eq.symm hf
      clear haq18 hsq18 aq18 wq18
      refine wpList_nil ?_
      replace haq19 := haq19.pick' (L' := [(6, .int .i64 x2)]) ⟨rfl, trivial⟩
      refine nrm ?_
      refine wp_ret ?_
      obtain rfl := Option.some.inj hm
      exact ret_1 haq19 rfl (res_tmp haq19 rfl) ⟨_, rfl, rfl, _, Hp.le.rfl, St.sel (hsq19) 2 [1] rfl rfl⟩
  · replace hm := ifTe hb1 hm
    refine seq_skip (g := 2) (d := 9) (want := false) (b := decide (p1s < 0)) haq5 hsq5 rfl rfl rfl hb1 rfl ?_
    intro aq20 haq20
    refine seq_skip (g := 2) (d := 9) (want := false) (b := decide (p1s < 0)) haq20 hsq5 rfl rfl rfl hb1 rfl ?_
    intro aq21 haq21
    refine seq_skip (g := 2) (d := 9) (want := false) (b := decide (p1s < 0)) haq21 hsq5 rfl rfl rfl hb1 rfl ?_
    intro aq22 haq22
    refine seq_op0 haq22 hsq5 (opT_pick (b := decide (p1s < 0)) (v := .bool true) rfl rfl (ifT hb1)) rfl rfl ?_
    rintro u aq23 wq23 hf haq23 hsq23
    obtain rfl := Eq.symm hf
    clear haq22 hsq5 aq22 wq5
    refine wpList_nil ?_
    replace haq23 := haq23.pick' (L' := [(1, .int .i64 p1s), (2, .int .i64 p2letter), (3, .pointer (some ⟨g1, 0, none⟩)), (13, .bool true)]) ⟨rfl, rfl, rfl, rfl, trivial⟩
    refine nrm ?_
    refine cnd_true (b := true) haq23 rfl rfl rfl ?_
    refine wp_seq ?_
    refine wp_region_lit ?_
    refine seq_op0 haq23 hsq23 (opT_assign (v := .int .i64 (-1)) rfl rfl) rfl rfl ?_
    rintro u aq24 wq24 hf haq24 hsq24
    obtain rfl := Eq.symm hf
    clear haq23 hsq23 aq23 wq23
    refine wpList_nil ?_
    replace haq24 := haq24.pick' (L' := [(6, .int .i64 (-1))]) ⟨rfl, trivial⟩
    refine nrm ?_
    refine wp_ret ?_
    refine thenR ?_
    obtain rfl := Option.some.inj hm
    exact ret_1 haq24 rfl (res_tmp haq24 rfl) ⟨_, rfl, rfl, _, Hp.le.rfl, St.sel (hsq24) 2 [1] rfl rfl⟩
set_option maxHeartbeats 8000000 in
theorem c_w_szAutomaton (p0a : Int × (List Bool) × (List (List Int))) (p1left : Int) (r : Int) (hm : m_w_szAutomaton p0a p1left = some r) {I : Hp} {w0 : World} (va0 : Value) (va1 : Value) (ra0 : (rSlice 4 rBool).rd I [va0] p0a.2.1) (ra1 : (rSlice 34 (rSlice 3 rInt)).rd I [va1] p0a.2.2) : Con Try.prog 12 #[.agg #[.int .i64 p0a.1, va0, va1], .int .i64 p1left] I w0 [] (fun v => v = .int .i64 r) (fun v => []) := by
  refine con_of_wp (n := 18) [(0, .agg #[.int .i64 p0a.1, va0, va1]), (1, .int .i64 p1left)] Try.func12 rfl rfl (Nat.le_of_ble_eq_true rfl) (args_all ⟨rfl, rfl, trivial⟩) (fun F w a ha hs => ?_) (fun v => trivial)
  unfold m_w_szAutomaton at hm
  refine wp_seq ?_
  refine wp_region_lit ?_
  refine seq_op ha hs rfl (opT_box (u := .agg #[.int .i64 p0a.1, va0, va1]) (l := [.int .i64 p0a.1, va0, va1]) rfl rfl rfl) (List.Perm.refl _) rfl ?_
  rintro _ aq1 wq1 ⟨g1, rfl⟩ haq1 (hsq1 : St I w0 wq1 [Ch.blk g1 [.int .i64 p0a.1, va0, va1] 25, F])
  clear ha hs a w
  refine seq_op0 haq1 hsq1 (opT_assign (v := .int .i64 0) rfl rfl) rfl rfl ?_
  rintro u aq2 wq2 hf haq2 hsq2
  obtain rfl := Eq.symm hf
  clear haq1 hsq1 aq1 wq1
  refine wpList_nil ?_
  replace haq2 := haq2.pick' (L' := [(1, .int .i64 p1left), (2, .pointer (some ⟨g1, 0, none⟩))]) ⟨rfl, rfl, trivial⟩
  refine nrm ?_
  refine wp_seq ?_
  refine wp_region_lit ?_
  refine seq_op0 haq2 hsq2 (opT_field_addr (g := g1) (b := 0) tf25_1 rfl rfl) rfl rfl ?_
  rintro u aq3 wq3 hf haq3 hsq3
  obtain rfl := Eq.symm hf
  clear haq2 hsq2 aq2 wq2
  refine seq_op haq3 hsq3 rfl (opT_load_blk (g := g1) (off := 1) (E := 25) (l := [.int .i64 p0a.1, va0, va1]) (d := [va0]) (u := va0) ti22 rfl rfl rfl rfl rfl rfl) (perm_front (i := 0) rfl) rfl ?_
  rintro u aq4 wq4 hf haq4 (hsq4 : St I w0 wq4 [Ch.blk g1 [.int .i64 p0a.1, va0, va1] 25, F])
  obtain rfl := Eq.symm hf
  clear haq3 hsq3 aq3 wq3
  refine seq_op0 haq4 hsq4 (opT_move (v := .int .i64 p1left) rfl rfl) rfl rfl ?_
  rintro u aq5 wq5 hf haq5 hsq5
  obtain rfl := Eq.symm hf
  clear haq4 hsq4 aq4 wq4
  obtain ⟨r1, e1, hm⟩ := bind_some hm
  refine seq_op0 haq5 hsq5 (opT_call (args := #[va0, .int .i64 p1left]) (first := #[]) (captured := #[]) en44 rfl rfl rfl (c_w_szBoolS p0a.2.1 p1left _ e1 va0 ra0)) rfl rfl ?_
  rintro u aq6 wq6 hf haq6 hsq6
  obtain rfl := Eq.symm hf
  clear haq5 hsq5 aq5 wq5
  refine seq_op0 haq6 hsq6 (opT_assign (v := .int .i64 r1) rfl rfl) rfl rfl ?_
  rintro u aq7 wq7 hf haq7 hsq7
  obtain rfl := Eq.symm hf
  clear haq6 hsq6 aq6 wq6
  refine wpList_nil ?_
  replace haq7 := haq7.pick' (L' := [(1, .int .i64 r1), (2, .pointer (some ⟨g1, 0, none⟩))]) ⟨rfl, rfl, trivial⟩
  refine nrm ?_
  refine wp_seq ?_
  refine wp_seq ?_
  refine wp_region_lit ?_
  refine seq_op0 haq7 hsq7 (opT_move (v := .int .i64 r1) rfl rfl) rfl rfl ?_
  rintro u aq8 wq8 hf haq8 hsq8
  obtain rfl := Eq.symm hf
  clear haq7 hsq7 aq7 wq7
  refine seq_op0 haq8 hsq8 (opT_cmp (k := .i64) (m := r1) (n := 0) (c := decide (r1 < 0)) rfl rfl rfl rfl rfl) rfl rfl ?_
  rintro u aq9 wq9 hf haq9 hsq9
  obtain rfl := Eq.symm hf
  clear haq8 hsq8 aq8 wq8
  refine wpList_nil ?_
  replace haq9 := haq9.pick' (L' := [(1, .int .i64 r1), (2, .pointer (some ⟨g1, 0, none⟩)), (10, .bool (decide (r1 < 0)))]) ⟨rfl, rfl, rfl, trivial⟩
  refine nrm ?_
  rcases two (decide (r1 < 0)) with hb1 | hb1
  · replace hm := ifFe hb1 hm
    refine cnd_false (b := decide (r1 < 0)) haq9 rfl rfl hb1 ?_
    refine wp_skip ?_
    refine nrm ?_
    refine wp_seq ?_
    refine wp_region_lit ?_
    refine seq_op0 haq9 hsq9 (opT_field_addr (g := g1) (b := 0) tf25_2 rfl rfl) rfl rfl ?_
    rintro u aq10 wq10 hf haq10 hsq10
    obtain rfl := Eq.symm hf
    clear haq9 hsq9 aq9 wq9
    refine seq_op haq10 hsq10 rfl (opT_load_blk (g := g1) (off := 2) (E := 25) (l := [.int .i64 p0a.1, va0, va1]) (d := [va1]) (u := va1) ti23 rfl rfl rfl rfl rfl rfl) (perm_front (i := 0) rfl) rfl ?_
    rintro u aq11 wq11 hf haq11 (hsq11 : St I w0 wq11 [Ch.blk g1 [.int .i64 p0a.1, va0, va1] 25, F])
    obtain rfl := Eq.symm hf
    clear haq10 hsq10 aq10 wq10
    refine seq_op0 haq11 hsq11 (opT_move (v := .int .i64 r1) rfl rfl) rfl rfl ?_
    rintro u aq12 wq12 hf haq12 hsq12
    obtain rfl := Eq.symm hf
    clear haq11 hsq11 aq11 wq11
    obtain ⟨r2, e2, hm⟩ := bind_some hm
    refine seq_op0 haq12 hsq12 (opT_call (args := #[va1, .int .i64 r1]) (first := #[]) (captured := #[]) en45 rfl rfl rfl (c_w_szIntSS p0a.2.2 r1 _ e2 va1 ra1)) rfl rfl ?_
    rintro u aq13 wq13 hf haq13 hsq13
    obtain rfl := Eq.symm hf
    clear haq12 hsq12 aq12 wq12
    refine seq_op0 haq13 hsq13 (opT_assign (v := .int .i64 r2) rfl rfl) rfl rfl ?_
    rintro u aq14 wq14 hf haq14 hsq14
    obtain rfl := Eq.symm hf
    clear haq13 hsq13 aq13 wq13
    refine wpList_nil ?_
    replace haq14 := haq14.pick' (L' := [(1, .int .i64 r2)]) ⟨rfl, trivial⟩
    refine nrm ?_
    refine wp_seq ?_
    refine wp_seq ?_
    refine wp_region_lit ?_
    refine seq_op0 haq14 hsq14 (opT_move (v := .int .i64 r2) rfl rfl) rfl rfl ?_
    rintro u aq15 wq15 hf haq15 hsq15
    obtain rfl := Eq.symm hf
    clear haq14 hsq14 aq14 wq14
    refine seq_op0 haq15 hsq15 (opT_cmp (k := .i64) (m := r2) (n := 0) (c := decide (r2 < 0)) rfl rfl rfl rfl rfl) rfl rfl ?_
    rintro u aq16 wq16 hf haq16 hsq16
    obtain rfl := Eq.symm hf
    clear haq15 hsq15 aq15 wq15
    refine wpList_nil ?_
    replace haq16 := haq16.pick' (L' := [(1, .int .i64 r2), (16, .bool (decide (r2 < 0)))]) ⟨rfl, rfl, trivial⟩
    refine nrm ?_
    rcases two (decide (r2 < 0)) with hb2 | hb2
    · replace hm := ifFe hb2 hm
      refine cnd_false (b := decide (r2 < 0)) haq16 rfl rfl hb2 ?_
      refine wp_skip ?_
      refine nrm ?_
      refine wp_seq ?_
      refine wp_region_lit ?_
      refine seq_op0 haq16 hsq16 (opT_move (v := .int .i64 r2) rfl rfl) rfl rfl ?_
      rintro u aq17 wq17 hf haq17 hsq17
      obtain rfl := Eq.symm hf
      clear haq16 hsq16 aq16 wq16
      refine seq_op0 haq17 hsq17 (opT_assign (v := .int .i64 r2) rfl rfl) rfl rfl ?_
      rintro u aq18 wq18 hf haq18 hsq18
      obtain rfl := Eq.symm hf
      clear haq17 hsq17 aq17 wq17
      refine wpList_nil ?_
      replace haq18 := haq18.pick' (L' := [(4, .int .i64 r2)]) ⟨rfl, trivial⟩
      refine nrm ?_
      refine wp_ret ?_
      obtain rfl := Option.some.inj hm
      exact ret_1 haq18 rfl (res_tmp haq18 rfl) ⟨_, rfl, rfl, _, Hp.le.rfl, St.sel (hsq18) 2 [1] rfl rfl⟩
    · replace hm := ifTe hb2 hm
      refine cnd_true (b := decide (r2 < 0)) haq16 rfl rfl hb2 ?_
      refine wp_seq ?_
      refine wp_region_lit ?_
      refine seq_op0 haq16 hsq16 (opT_assign (v := .int .i64 (-1)) rfl rfl) rfl rfl ?_
      rintro u aq19 wq19 hf haq19 hsq19
      obtain rfl := Eq.symm hf
      clear haq16 hsq16 aq16 wq16
      refine wpList_nil ?_
      replace haq19 := haq19.pick' (L' := [(4, .int .i64 (-1))]) ⟨rfl, trivial⟩
      refine nrm ?_
      refine wp_ret ?_
      refine thenR ?_
      obtain rfl := Option.some.inj hm
      exact ret_1 haq19 rfl (res_tmp haq19 rfl) ⟨_, rfl, rfl, _, Hp.le.rfl, St.sel (hsq19) 2 [1] rfl rfl⟩
  · replace hm := ifTe hb1 hm
    refine cnd_true (b := decide (r1 < 0)) haq9 rfl rfl hb1 ?_
    refine wp_seq ?_
    refine wp_region_lit ?_
    refine seq_op0 haq9 hsq9 (opT_assign (v := .int .i64 (-1)) rfl rfl) rfl rfl ?_
    rintro u aq20 wq20 hf haq20 hsq20
    obtain rfl := Eq.symm hf
    clear haq9 hsq9 aq9 wq9
    refine wpList_nil ?_
    replace haq20 := haq20.pick' (L' := [(4, .int .i64 (-1))]) ⟨rfl, trivial⟩
    refine nrm ?_
    refine wp_ret ?_
    refine thenR ?_
    obtain rfl := Option.some.inj hm
    exact ret_1 haq20 rfl (res_tmp haq20 rfl) ⟨_, rfl, rfl, _, Hp.le.rfl, St.sel (hsq20) 2 [1] rfl rfl⟩
end Go.Proofs.Ytcihbmdppgpmjaa.D
