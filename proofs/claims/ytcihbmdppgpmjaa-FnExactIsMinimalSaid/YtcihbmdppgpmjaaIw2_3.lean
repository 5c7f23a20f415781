/- Printed by dec.py: models of functions and the walks that show them. -/
import Derived.Test.YtcihbmdppgpmjaaIw0_1
import Derived.Test.YtcihbmdppgpmjaaIw0_2
import Derived.Test.YtcihbmdppgpmjaaIw1_0
import Derived.Test.YtcihbmdppgpmjaaIw1_1
import Derived.Test.YtcihbmdppgpmjaaIw1_2
set_option linter.unusedVariables false
set_option linter.unusedSimpArgs false
set_option linter.unnecessarySimpa false
set_option maxRecDepth 100000
namespace Go.Proofs.Ytcihbmdppgpmjaa.D
open Go.RowKit
set_option maxHeartbeats 8000000 in
theorem c_w_eqAutomaton (p0a : Int × (List Bool) × (List (List Int))) (p1b : Int × (List Bool) × (List (List Int))) (r : Bool) (hm : m_w_eqAutomaton p0a p1b = some r) {I : Hp} {w0 : World} (va0 : Value) (va1 : Value) (va2 : Value) (va3 : Value) (ra0 : (rSlice 4 rBool).rd I [va0] p0a.2.1) (ra1 : (rSlice 34 (rSlice 3 rInt)).rd I [va1] p0a.2.2) (ra2 : (rSlice 4 rBool).rd I [va2] p1b.2.1) (ra3 : (rSlice 34 (rSlice 3 rInt)).rd I [va3] p1b.2.2) : Con Try.prog 16 #[.agg #[.int .i64 p0a.1, va0, va1], .agg #[.int .i64 p1b.1, va2, va3]] I w0 [] (fun v => v = .bool r) (fun v => []) := by
  refine con_of_wp (n := 22) [(0, .agg #[.int .i64 p0a.1, va0, va1]), (1, .agg #[.int .i64 p1b.1, va2, va3])] Try.func16 rfl rfl (Nat.le_of_ble_eq_true rfl) (args_all ⟨rfl, rfl, trivial⟩) (fun F w a ha hs => ?_) (fun v => trivial)
  unfold m_w_eqAutomaton at hm
  refine wp_seq ?_
  refine wp_region_lit ?_
  refine seq_op ha hs rfl (opT_box (u := .agg #[.int .i64 p0a.1, va0, va1]) (l := [.int .i64 p0a.1, va0, va1]) rfl rfl rfl) (List.Perm.refl _) rfl ?_
  rintro _ aq1 wq1 ⟨g1, rfl⟩ haq1 (hsq1 : St I w0 wq1 [Ch.blk g1 [.int .i64 p0a.1, va0, va1] 27, F])
  clear ha hs a w
  refine seq_op haq1 hsq1 rfl (opT_box (u := .agg #[.int .i64 p1b.1, va2, va3]) (l := [.int .i64 p1b.1, va2, va3]) rfl rfl rfl) (List.Perm.refl _) rfl ?_
  rintro _ aq2 wq2 ⟨g2, rfl⟩ haq2 (hsq2 : St I w0 wq2 [Ch.blk g2 [.int .i64 p1b.1, va2, va3] 27, Ch.blk g1 [.int .i64 p0a.1, va0, va1] 27, F])
  clear haq1 hsq1 aq1 wq1
  refine seq_op0 haq2 hsq2 (opT_assign (v := .bool false) rfl rfl) rfl rfl ?_
  rintro u aq3 wq3 hf haq3 hsq3
  obtain rfl := Eq.symm hf
  clear haq2 hsq2 aq2 wq2
  refine wpList_nil ?_
  replace haq3 := haq3.pick' (L' := [(2, .pointer (some ⟨g1, 0, none⟩)), (3, .pointer (some ⟨g2, 0, none⟩))]) ⟨rfl, rfl, trivial⟩
  refine nrm ?_
  refine wp_seq ?_
  refine wp_seq ?_
  refine wp_region_lit ?_
  refine seq_op0 haq3 hsq3 (opT_field_addr (g := g1) (b := 0) tf27_0 rfl rfl) rfl rfl ?_
  rintro u aq4 wq4 hf haq4 hsq4
  obtain rfl := Eq.symm hf
  clear haq3 hsq3 aq3 wq3
  refine seq_op haq4 hsq4 rfl (opT_load_blk (g := g1) (off := 0) (E := 27) (l := [.int .i64 p0a.1, va0, va1]) (d := [.int .i64 p0a.1]) (u := .int .i64 p0a.1) ti3 rfl rfl rfl rfl rfl rfl) (perm_front (i := 1) rfl) rfl ?_
  rintro u aq5 wq5 hf haq5 (hsq5 : St I w0 wq5 [Ch.blk g1 [.int .i64 p0a.1, va0, va1] 27, Ch.blk g2 [.int .i64 p1b.1, va2, va3] 27, F])
  obtain rfl := Eq.symm hf
  clear haq4 hsq4 aq4 wq4
  refine seq_op0 haq5 hsq5 (opT_field_addr (g := g2) (b := 0) tf27_0 rfl rfl) rfl rfl ?_
  rintro u aq6 wq6 hf haq6 hsq6
  obtain rfl := Eq.symm hf
  clear haq5 hsq5 aq5 wq5
  refine seq_op haq6 hsq6 rfl (opT_load_blk (g := g2) (off := 0) (E := 27) (l := [.int .i64 p1b.1, va2, va3]) (d := [.int .i64 p1b.1]) (u := .int .i64 p1b.1) ti3 rfl rfl rfl rfl rfl rfl) (perm_front (i := 1) rfl) rfl ?_
  rintro u aq7 wq7 hf haq7 (hsq7 : St I w0 wq7 [Ch.blk g2 [.int .i64 p1b.1, va2, va3] 27, Ch.blk g1 [.int .i64 p0a.1, va0, va1] 27, F])
  obtain rfl := Eq.symm hf
  clear haq6 hsq6 aq6 wq6
  refine seq_op0 haq7 hsq7 (opT_cmp (k := .i64) (m := p0a.1) (n := p1b.1) (c := p0a.1 != p1b.1) rfl rfl rfl rfl rfl) rfl rfl ?_
  rintro u aq8 wq8 hf haq8 hsq8
  obtain rfl := Eq.symm hf
  clear haq7 hsq7 aq7 wq7
  refine wpList_nil ?_
  replace haq8 := haq8.pick' (L' := [(2, .pointer (some ⟨g1, 0, none⟩)), (3, .pointer (some ⟨g2, 0, none⟩)), (9, .bool (p0a.1 != p1b.1))]) ⟨rfl, rfl, rfl, trivial⟩
  refine nrm ?_
  rcases two (p0a.1 != p1b.1) with hb1 | hb1
  · replace hm := ifFe hb1 hm
    refine cnd_false (b := p0a.1 != p1b.1) haq8 rfl rfl hb1 ?_
    refine wp_skip ?_
    refine nrm ?_
    refine wp_seq ?_
    refine wp_seq ?_
    refine wp_region_lit ?_
    refine seq_op0 haq8 hsq8 (opT_field_addr (g := g1) (b := 0) tf27_1 rfl rfl) rfl rfl ?_
    rintro u aq9 wq9 hf haq9 hsq9
    obtain rfl := Eq.symm hf
    clear haq8 hsq8 aq8 wq8
    refine seq_op haq9 hsq9 rfl (opT_load_blk (g := g1) (off := 1) (E := 27) (l := [.int .i64 p0a.1, va0, va1]) (d := [va0]) (u := va0) ti22 rfl rfl rfl rfl rfl rfl) (perm_front (i := 1) rfl) rfl ?_
    rintro u aq10 wq10 hf haq10 (hsq10 : St I w0 wq10 [Ch.blk g1 [.int .i64 p0a.1, va0, va1] 27, Ch.blk g2 [.int .i64 p1b.1, va2, va3] 27, F])
    obtain rfl := Eq.symm hf
    clear haq9 hsq9 aq9 wq9
    refine seq_op0 haq10 hsq10 (opT_field_addr (g := g2) (b := 0) tf27_1 rfl rfl) rfl rfl ?_
    rintro u aq11 wq11 hf haq11 hsq11
    obtain rfl := Eq.symm hf
    clear haq10 hsq10 aq10 wq10
    refine seq_op haq11 hsq11 rfl (opT_load_blk (g := g2) (off := 1) (E := 27) (l := [.int .i64 p1b.1, va2, va3]) (d := [va2]) (u := va2) ti22 rfl rfl rfl rfl rfl rfl) (perm_front (i := 1) rfl) rfl ?_
    rintro u aq12 wq12 hf haq12 (hsq12 : St I w0 wq12 [Ch.blk g2 [.int .i64 p1b.1, va2, va3] 27, Ch.blk g1 [.int .i64 p0a.1, va0, va1] 27, F])
    obtain rfl := Eq.symm hf
    clear haq11 hsq11 aq11 wq11
    obtain ⟨r1, e1, hm⟩ := bind_some hm
    refine seq_op0 haq12 hsq12 (opT_call (args := #[va0, va2]) (first := #[]) (captured := #[]) en53 rfl rfl rfl (c_w_eqBoolS p0a.2.1 p1b.2.1 _ e1 va0 va2 ra0 ra2)) rfl rfl ?_
    rintro u aq13 wq13 hf haq13 hsq13
    obtain rfl := Eq.symm hf
    clear haq12 hsq12 aq12 wq12
    refine seq_op0 haq13 hsq13 (opT_not (b := r1) rfl rfl) rfl rfl ?_
    rintro u aq14 wq14 hf haq14 hsq14
    obtain rfl := Eq.symm hf
    clear haq13 hsq13 aq13 wq13
    refine wpList_nil ?_
    replace haq14 := haq14.pick' (L' := [(2, .pointer (some ⟨g1, 0, none⟩)), (3, .pointer (some ⟨g2, 0, none⟩)), (15, .bool (!r1))]) ⟨rfl, rfl, rfl, trivial⟩
    refine nrm ?_
    rcases two (r1) with hb2 | hb2
    · replace hm := ifFe hb2 hm
      refine cnd_true (b := !r1) haq14 rfl rfl (notT hb2) ?_
      refine wp_seq ?_
      refine wp_region_lit ?_
      refine seq_op0 haq14 hsq14 (opT_assign (v := .bool false) rfl rfl) rfl rfl ?_
      rintro u aq15 wq15 hf haq15 hsq15
      obtain rfl := Eq.symm hf
      clear haq14 hsq14 aq14 wq14
      refine wpList_nil ?_
      replace haq15 := haq15.pick' (L' := [(4, .bool false)]) ⟨rfl, trivial⟩
      refine nrm ?_
      refine wp_ret ?_
      refine thenR ?_
      obtain rfl := Option.some.inj hm
      exact ret_1 haq15 rfl (res_tmp haq15 rfl) ⟨_, rfl, rfl, _, Hp.le.rfl, St.sel (hsq15) 3 [2] rfl rfl⟩
    · replace hm := ifTe hb2 hm
      refine cnd_false (b := !r1) haq14 rfl rfl (notF hb2) ?_
      refine wp_skip ?_
      refine nrm ?_
      refine wp_seq ?_
      refine wp_seq ?_
      refine wp_region_lit ?_
      refine seq_op0 haq14 hsq14 (opT_field_addr (g := g1) (b := 0) tf27_2 rfl rfl) rfl rfl ?_
      rintro u aq16 wq16 hf haq16 hsq16
      obtain rfl := Eq.symm hf
      clear haq14 hsq14 aq14 wq14
      refine seq_op haq16 hsq16 rfl (opT_load_blk (g := g1) (off := 2) (E := 27) (l := [.int .i64 p0a.1, va0, va1]) (d := [va1]) (u := va1) ti23 rfl rfl rfl rfl rfl rfl) (perm_front (i := 1) rfl) rfl ?_
      rintro u aq17 wq17 hf haq17 (hsq17 : St I w0 wq17 [Ch.blk g1 [.int .i64 p0a.1, va0, va1] 27, Ch.blk g2 [.int .i64 p1b.1, va2, va3] 27, F])
      obtain rfl := Eq.symm hf
      clear haq16 hsq16 aq16 wq16
      refine seq_op0 haq17 hsq17 (opT_field_addr (g := g2) (b := 0) tf27_2 rfl rfl) rfl rfl ?_
      rintro u aq18 wq18 hf haq18 hsq18
      obtain rfl := Eq.symm hf
      clear haq17 hsq17 aq17 wq17
      refine seq_op haq18 hsq18 rfl (opT_load_blk (g := g2) (off := 2) (E := 27) (l := [.int .i64 p1b.1, va2, va3]) (d := [va3]) (u := va3) ti23 rfl rfl rfl rfl rfl rfl) (perm_front (i := 1) rfl) rfl ?_
      rintro u aq19 wq19 hf haq19 (hsq19 : St I w0 wq19 [Ch.blk g2 [.int .i64 p1b.1, va2, va3] 27, Ch.blk g1 [.int .i64 p0a.1, va0, va1] 27, F])
      obtain rfl := Eq.symm hf
      clear haq18 hsq18 aq18 wq18
      obtain ⟨r2, e2, hm⟩ := bind_some hm
      refine seq_op0 haq19 hsq19 (opT_call (args := #[va1, va3]) (first := #[]) (captured := #[]) en54 rfl rfl rfl (c_w_eqIntSS p0a.2.2 p1b.2.2 _ e2 va1 va3 ra1 ra3)) rfl rfl ?_
      rintro u aq20 wq20 hf haq20 hsq20
      obtain rfl := Eq.symm hf
      clear haq19 hsq19 aq19 wq19
      refine seq_op0 haq20 hsq20 (opT_not (b := r2) rfl rfl) rfl rfl ?_
      rintro u aq21 wq21 hf haq21 hsq21
      obtain rfl := Eq.symm hf
      clear haq20 hsq20 aq20 wq20
      refine wpList_nil ?_
      replace haq21 := haq21.pick' (L' := [(21, .bool (!r2))]) ⟨rfl, trivial⟩
      refine nrm ?_
      rcases two (r2) with hb3 | hb3
      · replace hm := ifFe hb3 hm
        refine cnd_true (b := !r2) haq21 rfl rfl (notT hb3) ?_
        refine wp_seq ?_
        refine wp_region_lit ?_
        refine seq_op0 haq21 hsq21 (opT_assign (v := .bool false) rfl rfl) rfl rfl ?_
        rintro u aq22 wq22 hf haq22 hsq22
        obtain rfl := Eq.symm hf
        clear haq21 hsq21 aq21 wq21
        refine wpList_nil ?_
        replace haq22 := haq22.pick' (L' := [(4, .bool false)]) ⟨rfl, trivial⟩
        refine nrm ?_
        refine wp_ret ?_
        refine thenR ?_
        obtain rfl := Option.some.inj hm
        exact ret_1 haq22 rfl (res_tmp haq22 rfl) ⟨_, rfl, rfl, _, Hp.le.rfl, St.sel (hsq22) 3 [2] rfl rfl⟩
      · replace hm := ifTe hb3 hm
        refine cnd_false (b := !r2) haq21 rfl rfl (notF hb3) ?_
        refine wp_skip ?_
        refine nrm ?_
        refine wp_seq ?_
        refine wp_region_lit ?_
        refine seq_op0 haq21 hsq21 (opT_assign (v := .bool true) rfl rfl) rfl rfl ?_
        rintro u aq23 wq23 hf haq23 hsq23
        obtain rfl := Eq.symm hf
        clear haq21 hsq21 aq21 wq21
        refine wpList_nil ?_
        replace haq23 := haq23.pick' (L' := [(4, .bool true)]) ⟨rfl, trivial⟩
        refine nrm ?_
        refine wp_ret ?_
        obtain rfl := Option.some.inj hm
        exact ret_1 haq23 rfl (res_tmp haq23 rfl) ⟨_, rfl, rfl, _, Hp.le.rfl, St.sel (hsq23) 3 [2] rfl rfl⟩
  · replace hm := ifTe hb1 hm
    refine cnd_true (b := p0a.1 != p1b.1) haq8 rfl rfl hb1 ?_
    refine wp_seq ?_
    refine wp_region_lit ?_
    refine seq_op0 haq8 hsq8 (opT_assign (v := .bool false) rfl rfl) rfl rfl ?_
    rintro u aq24 wq24 hf haq24 hsq24
    obtain rfl := Eq.symm hf
    clear haq8 hsq8 aq8 wq8
    refine wpList_nil ?_
    replace haq24 := haq24.pick' (L' := [(4, .bool false)]) ⟨rfl, trivial⟩
    refine nrm ?_
    refine wp_ret ?_
    refine thenR ?_
    obtain rfl := Option.some.inj hm
    exact ret_1 haq24 rfl (res_tmp haq24 rfl) ⟨_, rfl, rfl, _, Hp.le.rfl, St.sel (hsq24) 3 [2] rfl rfl⟩
set_option maxHeartbeats 8000000 in
theorem c_w_toAutomaton (p0a : Int × (List Bool) × (List (List Int))) (r : Int × (List Bool) × (List (List Int))) (hm : m_w_toAutomaton p0a = some r) {I : Hp} {w0 : World} (va0 : Value) (va1 : Value) (ra0 : (rSlice 4 rBool).rd I [va0] p0a.2.1) (ra1 : (rSlice 34 (rSlice 3 rInt)).rd I [va1] p0a.2.2) : Con Try.prog 14 #[.agg #[.int .i64 p0a.1, va0, va1]] I w0 [] (fun v => ∃ h0 h1 : Value, v = .agg #[.int .i64 r.1, h0, h1]) (fun v => [Ch.own (rSlice 4 rBool) [vg v [1]] r.2.1, Ch.own (rSlice 34 (rSlice 3 rInt)) [vg v [2]] r.2.2]) := by
  refine con_of_wp (n := 16) [(0, .agg #[.int .i64 p0a.1, va0, va1])] Try.func14 rfl rfl (Nat.le_of_ble_eq_true rfl) (args_all ⟨rfl, trivial⟩) (fun F w a ha hs => ?_) (fun v => ⟨dp_own (dp_slice dp_bool), dp_own (dp_slice (dp_slice dp_int)), trivial⟩)
  unfold m_w_toAutomaton at hm
  refine wp_seq ?_
  refine wp_region_lit ?_
  refine seq_op ha hs rfl (opT_box (u := .agg #[.int .i64 p0a.1, va0, va1]) (l := [.int .i64 p0a.1, va0, va1]) rfl rfl rfl) (List.Perm.refl _) rfl ?_
  rintro _ aq1 wq1 ⟨g1, rfl⟩ haq1 (hsq1 : St I w0 wq1 [Ch.blk g1 [.int .i64 p0a.1, va0, va1] 25, F])
  clear ha hs a w
  refine seq_op haq1 hsq1 rfl (opT_alloc (l := [.int .i64 0, .slice none 0 0, .slice none 0 0]) tz27 rfl rfl) (List.Perm.refl _) rfl ?_
  rintro _ aq2 wq2 ⟨g2, rfl⟩ haq2 (hsq2 : St I w0 wq2 [Ch.blk g2 [.int .i64 0, .slice none 0 0, .slice none 0 0] 27, Ch.blk g1 [.int .i64 p0a.1, va0, va1] 25, F])
  clear haq1 hsq1 aq1 wq1
  refine wpList_nil ?_
  replace haq2 := haq2.pick' (L' := [(1, .pointer (some ⟨g1, 0, none⟩)), (2, .pointer (some ⟨g2, 0, none⟩))]) ⟨rfl, rfl, trivial⟩
  refine nrm ?_
  refine wp_seq ?_
  refine wp_region_lit ?_
  refine seq_op haq2 hsq2 rfl (opT_alloc (l := [.int .i64 0, .slice none 0 0, .slice none 0 0]) tz27 rfl rfl) (List.Perm.refl _) rfl ?_
  rintro _ aq3 wq3 ⟨g3, rfl⟩ haq3 (hsq3 : St I w0 wq3 [Ch.blk g3 [.int .i64 0, .slice none 0 0, .slice none 0 0] 27, Ch.blk g2 [.int .i64 0, .slice none 0 0, .slice none 0 0] 27, Ch.blk g1 [.int .i64 p0a.1, va0, va1] 25, F])
  clear haq2 hsq2 aq2 wq2
  refine wpList_nil ?_
  replace haq3 := haq3.pick' (L' := [(1, .pointer (some ⟨g1, 0, none⟩)), (2, .pointer (some ⟨g2, 0, none⟩)), (3, .pointer (some ⟨g3, 0, none⟩))]) ⟨rfl, rfl, rfl, trivial⟩
  refine nrm ?_
  refine wp_seq ?_
  refine wp_region_lit ?_
  refine seq_op0 haq3 hsq3 (opT_field_addr (g := g1) (b := 0) tf25_0 rfl rfl) rfl rfl ?_
  rintro u aq4 wq4 hf haq4 hsq4
  obtain rfl := Eq.symm hf
  clear haq3 hsq3 aq3 wq3
  refine seq_op haq4 hsq4 rfl (opT_load_blk (g := g1) (off := 0) (E := 25) (l := [.int .i64 p0a.1, va0, va1]) (d := [.int .i64 p0a.1]) (u := .int .i64 p0a.1) ti3 rfl rfl rfl rfl rfl rfl) (perm_front (i := 2) rfl) rfl ?_
  rintro u aq5 wq5 hf haq5 (hsq5 : St I w0 wq5 [Ch.blk g1 [.int .i64 p0a.1, va0, va1] 25, Ch.blk g3 [.int .i64 0, .slice none 0 0, .slice none 0 0] 27, Ch.blk g2 [.int .i64 0, .slice none 0 0, .slice none 0 0] 27, F])
  obtain rfl := Eq.symm hf
  clear haq4 hsq4 aq4 wq4
  refine seq_op0 haq5 hsq5 (opT_field_addr (g := g3) (b := 0) tf27_0 rfl rfl) rfl rfl ?_
  rintro u aq6 wq6 hf haq6 hsq6
  obtain rfl := Eq.symm hf
  clear haq5 hsq5 aq5 wq5
  refine seq_op haq6 hsq6 rfl (opT_store_blk (g := g3) (off := 0) (l := [.int .i64 0, .slice none 0 0, .slice none 0 0]) (d := [.int .i64 p0a.1]) (E := 27) (u := .int .i64 p0a.1) ti3 rfl rfl rfl rfl rfl (allC rfl allN) (Nat.le_of_ble_eq_true rfl)) (perm_front (i := 1) rfl) rfl ?_
  rintro _ aq7 wq7 - haq7 (hsq7 : St I w0 wq7 [Ch.blk g3 [.int .i64 p0a.1, .slice none 0 0, .slice none 0 0] 27, Ch.blk g1 [.int .i64 p0a.1, va0, va1] 25, Ch.blk g2 [.int .i64 0, .slice none 0 0, .slice none 0 0] 27, F])
  clear haq6 hsq6 aq6 wq6
  refine wpList_nil ?_
  replace haq7 := haq7.pick' (L' := [(1, .pointer (some ⟨g1, 0, none⟩)), (2, .pointer (some ⟨g2, 0, none⟩)), (3, .pointer (some ⟨g3, 0, none⟩))]) ⟨rfl, rfl, rfl, trivial⟩
  refine nrm ?_
  refine wp_seq ?_
  refine wp_region_lit ?_
  refine seq_op0 haq7 hsq7 (opT_field_addr (g := g1) (b := 0) tf25_1 rfl rfl) rfl rfl ?_
  rintro u aq8 wq8 hf haq8 hsq8
  obtain rfl := Eq.symm hf
  clear haq7 hsq7 aq7 wq7
  refine seq_op haq8 hsq8 rfl (opT_load_blk (g := g1) (off := 1) (E := 25) (l := [.int .i64 p0a.1, va0, va1]) (d := [va0]) (u := va0) ti22 rfl rfl rfl rfl rfl rfl) (perm_front (i := 1) rfl) rfl ?_
  rintro u aq9 wq9 hf haq9 (hsq9 : St I w0 wq9 [Ch.blk g1 [.int .i64 p0a.1, va0, va1] 25, Ch.blk g3 [.int .i64 p0a.1, .slice none 0 0, .slice none 0 0] 27, Ch.blk g2 [.int .i64 0, .slice none 0 0, .slice none 0 0] 27, F])
  obtain rfl := Eq.symm hf
  clear haq8 hsq8 aq8 wq8
  obtain ⟨r1, e1, hm⟩ := bind_some hm
  refine seq_op haq9 hsq9 rfl (opT_call (args := #[va0]) (first := #[]) (captured := #[]) en49 rfl rfl rfl (c_w_toBoolS p0a.2.1 _ e1 va0 ra0)) (List.Perm.refl _) rfl ?_
  rintro v1 aq10 wq10 - haq10 (hsq10 : St I w0 wq10 [Ch.own (rSlice 4 rBool) [v1] r1, Ch.blk g1 [.int .i64 p0a.1, va0, va1] 25, Ch.blk g3 [.int .i64 p0a.1, .slice none 0 0, .slice none 0 0] 27, Ch.blk g2 [.int .i64 0, .slice none 0 0, .slice none 0 0] 27, F])
  clear haq9 hsq9 aq9 wq9
  refine seq_op0 haq10 hsq10 (opT_field_addr (g := g3) (b := 0) tf27_1 rfl rfl) rfl rfl ?_
  rintro u aq11 wq11 hf haq11 hsq11
  obtain rfl := Eq.symm hf
  clear haq10 hsq10 aq10 wq10
  refine seq_op haq11 hsq11 rfl (opT_store_blk (g := g3) (off := 1) (l := [.int .i64 p0a.1, .slice none 0 0, .slice none 0 0]) (d := [v1]) (E := 27) (u := v1) ti22 rfl rfl rfl (Hd.cells (St.hd hsq11 0 rfl).1) rfl (allC (Hd.one (St.hd hsq11 0 rfl).1) allN) (Nat.le_of_ble_eq_true rfl)) (perm_front (i := 2) rfl) rfl ?_
  rintro _ aq12 wq12 - haq12 (hsq12 : St I w0 wq12 [Ch.blk g3 [.int .i64 p0a.1, v1, .slice none 0 0] 27, Ch.own (rSlice 4 rBool) [v1] r1, Ch.blk g1 [.int .i64 p0a.1, va0, va1] 25, Ch.blk g2 [.int .i64 0, .slice none 0 0, .slice none 0 0] 27, F])
  clear haq11 hsq11 aq11 wq11
  refine wpList_nil ?_
  replace haq12 := haq12.pick' (L' := [(1, .pointer (some ⟨g1, 0, none⟩)), (2, .pointer (some ⟨g2, 0, none⟩)), (3, .pointer (some ⟨g3, 0, none⟩))]) ⟨rfl, rfl, rfl, trivial⟩
  refine nrm ?_
  refine wp_seq ?_
  refine wp_region_lit ?_
  refine seq_op0 haq12 hsq12 (opT_field_addr (g := g1) (b := 0) tf25_2 rfl rfl) rfl rfl ?_
  rintro u aq13 wq13 hf haq13 hsq13
  obtain rfl := Eq.symm hf
  clear haq12 hsq12 aq12 wq12
  refine seq_op haq13 hsq13 rfl (opT_load_blk (g := g1) (off := 2) (E := 25) (l := [.int .i64 p0a.1, va0, va1]) (d := [va1]) (u := va1) ti23 rfl rfl rfl rfl rfl rfl) (perm_front (i := 2) rfl) rfl ?_
  rintro u aq14 wq14 hf haq14 (hsq14 : St I w0 wq14 [Ch.blk g1 [.int .i64 p0a.1, va0, va1] 25, Ch.blk g3 [.int .i64 p0a.1, v1, .slice none 0 0] 27, Ch.own (rSlice 4 rBool) [v1] r1, Ch.blk g2 [.int .i64 0, .slice none 0 0, .slice none 0 0] 27, F])
  obtain rfl := Eq.symm hf
  clear haq13 hsq13 aq13 wq13
  obtain ⟨r2, e2, hm⟩ := bind_some hm
  refine seq_op haq14 hsq14 rfl (opT_call (args := #[va1]) (first := #[]) (captured := #[]) en50 rfl rfl rfl (c_w_toIntSS p0a.2.2 _ e2 va1 ra1)) (List.Perm.refl _) rfl ?_
  rintro v2 aq15 wq15 - haq15 (hsq15 : St I w0 wq15 [Ch.own (rSlice 34 (rSlice 3 rInt)) [v2] r2, Ch.blk g1 [.int .i64 p0a.1, va0, va1] 25, Ch.blk g3 [.int .i64 p0a.1, v1, .slice none 0 0] 27, Ch.own (rSlice 4 rBool) [v1] r1, Ch.blk g2 [.int .i64 0, .slice none 0 0, .slice none 0 0] 27, F])
  clear haq14 hsq14 aq14 wq14
  refine seq_op0 haq15 hsq15 (opT_field_addr (g := g3) (b := 0) tf27_2 rfl rfl) rfl rfl ?_
  rintro u aq16 wq16 hf haq16 hsq16
  obtain rfl := Eq.symm hf
  clear haq15 hsq15 aq15 wq15
  refine seq_op haq16 hsq16 rfl (opT_store_blk (g := g3) (off := 2) (l := [.int .i64 p0a.1, v1, .slice none 0 0]) (d := [v2]) (E := 27) (u := v2) ti23 rfl rfl rfl (Hd.cells (St.hd hsq16 0 rfl).1) rfl (allC (Hd.one (St.hd hsq16 0 rfl).1) allN) (Nat.le_of_ble_eq_true rfl)) (perm_front (i := 2) rfl) rfl ?_
  rintro _ aq17 wq17 - haq17 (hsq17 : St I w0 wq17 [Ch.blk g3 [.int .i64 p0a.1, v1, v2] 27, Ch.own (rSlice 34 (rSlice 3 rInt)) [v2] r2, Ch.blk g1 [.int .i64 p0a.1, va0, va1] 25, Ch.own (rSlice 4 rBool) [v1] r1, Ch.blk g2 [.int .i64 0, .slice none 0 0, .slice none 0 0] 27, F])
  clear haq16 hsq16 aq16 wq16
  refine wpList_nil ?_
  replace haq17 := haq17.pick' (L' := [(2, .pointer (some ⟨g2, 0, none⟩)), (3, .pointer (some ⟨g3, 0, none⟩))]) ⟨rfl, rfl, trivial⟩
  refine nrm ?_
  refine wp_seq ?_
  refine wp_region_lit ?_
  refine seq_op haq17 hsq17 rfl (opT_load_blk (g := g3) (off := 0) (E := 27) (l := [.int .i64 p0a.1, v1, v2]) (d := [.int .i64 p0a.1, v1, v2]) (u := .agg #[.int .i64 p0a.1, v1, v2]) ti27 rfl rfl rfl rfl rfl rfl) (perm_front (i := 0) rfl) rfl ?_
  rintro u aq18 wq18 hf haq18 (hsq18 : St I w0 wq18 [Ch.blk g3 [.int .i64 p0a.1, v1, v2] 27, Ch.own (rSlice 34 (rSlice 3 rInt)) [v2] r2, Ch.blk g1 [.int .i64 p0a.1, va0, va1] 25, Ch.own (rSlice 4 rBool) [v1] r1, Ch.blk g2 [.int .i64 0, .slice none 0 0, .slice none 0 0] 27, F])
  obtain rfl := Eq.symm hf
  clear haq17 hsq17 aq17 wq17
  refine seq_op haq18 hsq18 rfl (opT_store_blk (g := g2) (off := 0) (l := [.int .i64 0, .slice none 0 0, .slice none 0 0]) (d := [.int .i64 p0a.1, v1, v2]) (E := 27) (u := .agg #[.int .i64 p0a.1, v1, v2]) ti27 rfl rfl rfl rfl rfl (allC rfl (allC (Hd.one (St.hd hsq18 3 rfl).1) (allC (Hd.one (St.hd hsq18 1 rfl).1) allN))) (Nat.le_of_ble_eq_true rfl)) (perm_front (i := 4) rfl) rfl ?_
  rintro _ aq19 wq19 - haq19 (hsq19 : St I w0 wq19 [Ch.blk g2 [.int .i64 p0a.1, v1, v2] 27, Ch.blk g3 [.int .i64 p0a.1, v1, v2] 27, Ch.own (rSlice 34 (rSlice 3 rInt)) [v2] r2, Ch.blk g1 [.int .i64 p0a.1, va0, va1] 25, Ch.own (rSlice 4 rBool) [v1] r1, F])
  clear haq18 hsq18 aq18 wq18
  refine wpList_nil ?_
  replace haq19 := haq19.pick' (L' := [(2, .pointer (some ⟨g2, 0, none⟩))]) ⟨rfl, trivial⟩
  refine nrm ?_
  refine wp_ret ?_
  obtain rfl := Option.some.inj hm
  exact ret_1 haq19 rfl (res_cell (g := g2) haq19 rfl hsq19 0 rfl ti27 rfl) ⟨_, rfl, ⟨_, _, rfl⟩, _, Hp.le.rfl, St.sel (hsq19) 6 [4, 2, 5] rfl rfl⟩
set_option maxHeartbeats 8000000 in
theorem c_w_szAutomaton (p0a : Int × (List Bool) × (List (List Int))) (p1left : Int) (r : Int) (hm : m_w_szAutomaton p0a p1left = some r) {I : Hp} {w0 : World} (va0 : Value) (va1 : Value) (ra0 : (rSlice 4 rBool).rd I [va0] p0a.2.1) (ra1 : (rSlice 34 (rSlice 3 rInt)).rd I [va1] p0a.2.2) : Con Try.prog 12 #[.agg #[.int .i64 p0a.1, va0, va1], .int .i64 p1left] I w0 [] (fun v => v = .int .i64 r) (fun v => []) := by
  refine con_of_wp (n := 18) [(0, .agg #[.int .i64 p0a.1, va0, va1]), (1, .int .i64 p1left)] Try.func12 rfl rfl (Nat.le_of_ble_eq_true rfl) (args_all ⟨rfl, rfl, trivial⟩) (fun F w a ha hs => ?_) (fun v => trivial)
  unfold m_w_szAutomaton at hm
  refine wp_seq ?_
  refine wp_region_lit ?_
  refine seq_op ha hs rfl (opT_box (u := .agg #[.int .i64 p0a.1, va0, va1]) (l := [.int .i64 p0a.1, va0, va1]) rfl rfl rfl) (List.Perm.refl _) rfl ?_
  rintro _ aq1 wq1 ⟨g1, rfl⟩ haq1 (hsq1 : St I w0 wq1 [Ch.blk g1 [.int .i64 p0a.1, va0, va1] 25, F])
  clear ha hs a w
  refine seq_op0 haq1 hsq1 (opT_assign (v := .int .i64 0) rfl rfl) rfl rfl ?_
  rintro u aq2 wq2 hf haq2 hsq2
  obtain rfl := Eq.symm hf
  clear haq1 hsq1 aq1 wq1
  refine wpList_nil ?_
  replace haq2 := haq2.pick' (L' := [(1, .int .i64 p1left), (2, .pointer (some ⟨g1, 0, none⟩))]) ⟨rfl, rfl, trivial⟩
  refine nrm ?_
  refine wp_seq ?_
  refine wp_region_lit ?_
  refine seq_op0 haq2 hsq2 (opT_field_addr (g := g1) (b := 0) tf25_1 rfl rfl) rfl rfl ?_
  rintro u aq3 wq3 hf haq3 hsq3
  obtain rfl := Eq.symm hf
  clear haq2 hsq2 aq2 wq2
  refine seq_op haq3 hsq3 rfl (opT_load_blk (g := g1) (off := 1) (E := 25) (l := [.int .i64 p0a.1, va0, va1]) (d := [va0]) (u := va0) ti22 rfl rfl rfl rfl rfl rfl) (perm_front (i := 0) rfl) rfl ?_
  rintro u aq4 wq4 hf haq4 (hsq4 : St I w0 wq4 [Ch.blk g1 [.int .i64 p0a.1, va0, va1] 25, F])
  obtain rfl := Eq.symm hf
  clear haq3 hsq3 aq3 wq3
  refine seq_op0 haq4 hsq4 (opT_move (v := .int .i64 p1left) rfl rfl) rfl rfl ?_
  rintro u aq5 wq5 hf haq5 hsq5
  obtain rfl := Eq.symm hf
  clear haq4 hsq4 aq4 wq4
  obtain ⟨r1, e1, hm⟩ := bind_some hm
  refine seq_op0 haq5 hsq5 (opT_call (args := #[va0, .int .i64 p1left]) (first := #[]) (captured := #[]) en44 rfl rfl rfl (c_w_szBoolS p0a.2.1 p1left _ e1 va0 ra0)) rfl rfl ?_
  rintro u aq6 wq6 hf haq6 hsq6
  obtain rfl := Eq.symm hf
  clear haq5 hsq5 aq5 wq5
  refine seq_op0 haq6 hsq6 (opT_assign (v := .int .i64 r1) rfl rfl) rfl rfl ?_
  rintro u aq7 wq7 hf haq7 hsq7
  obtain rfl := Eq.symm hf
  clear haq6 hsq6 aq6 wq6
  refine wpList_nil ?_
  replace haq7 := haq7.pick' (L' := [(1, .int .i64 r1), (2, .pointer (some ⟨g1, 0, none⟩))]) ⟨rfl, rfl, trivial⟩
  refine nrm ?_
  refine wp_seq ?_
  refine wp_seq ?_
  refine wp_region_lit ?_
  refine seq_op0 haq7 hsq7 (opT_move (v := .int .i64 r1) rfl rfl) rfl rfl ?_
  rintro u aq8 wq8 hf haq8 hsq8
  obtain rfl := Eq.symm hf
  clear haq7 hsq7 aq7 wq7
  refine seq_op0 haq8 hsq8 (opT_cmp (k := .i64) (m := r1) (n := 0) (c := decide (r1 < 0)) rfl rfl rfl rfl rfl) rfl rfl ?_
  rintro u aq9 wq9 hf haq9 hsq9
  obtain rfl := Eq.symm hf
  clear haq8 hsq8 aq8 wq8
  refine wpList_nil ?_
  replace haq9 := haq9.pick' (L' := [(1, .int .i64 r1), (2, .pointer (some ⟨g1, 0, none⟩)), (10, .bool (decide (r1 < 0)))]) ⟨rfl, rfl, rfl, trivial⟩
  refine nrm ?_
  rcases two (decide (r1 < 0)) with hb1 | hb1
  · replace hm := ifFe hb1 hm
    refine cnd_false (b := decide (r1 < 0)) haq9 rfl rfl hb1 ?_
    refine wp_skip ?_
    refine nrm ?_
    refine wp_seq ?_
    refine wp_region_lit ?_
    refine seq_op0 haq9 hsq9 (opT_field_addr (g := g1) (b := 0) tf25_2 rfl rfl) rfl rfl ?_
    rintro u aq10 wq10 hf haq10 hsq10
    obtain rfl := Eq.symm hf
    clear haq9 hsq9 aq9 wq9
    refine seq_op haq10 hsq10 rfl (opT_load_blk (g := g1) (off := 2) (E := 25) (l := [.int .i64 p0a.1, va0, va1]) (d := [va1]) (u := va1) ti23 rfl rfl rfl rfl rfl rfl) (perm_front (i := 0) rfl) rfl ?_
    rintro u aq11 wq11 hf haq11 (hsq11 : St I w0 wq11 [Ch.blk g1 [.int .i64 p0a.1, va0, va1] 25, F])
    obtain rfl := Eq.symm hf
    clear haq10 hsq10 aq10 wq10
    refine seq_op0 haq11 hsq11 (opT_move (v := .int .i64 r1) rfl rfl) rfl rfl ?_
    rintro u aq12 wq12 hf haq12 hsq12
    obtain rfl := Eq.symm hf
    clear haq11 hsq11 aq11 wq11
    obtain ⟨r2, e2, hm⟩ := bind_some hm
    refine seq_op0 haq12 hsq12 (opT_call (args := #[va1, .int .i64 r1]) (first := #[]) (captured := #[]) en45 rfl rfl rfl (c_w_szIntSS p0a.2.2 r1 _ e2 va1 ra1)) rfl rfl ?_
    rintro u aq13 wq13 hf haq13 hsq13
    obtain rfl := Eq.symm hf
    clear haq12 hsq12 aq12 wq12
    refine seq_op0 haq13 hsq13 (opT_assign (v := .int .i64 r2) rfl rfl) rfl rfl ?_
    rintro u aq14 wq14 hf haq14 hsq14
    obtain rfl := Eq.symm hf
    clear haq13 hsq13 aq13 wq13
    refine wpList_nil ?_
    replace haq14 := haq14.pick' (L' := [(1, .int .i64 r2)]) ⟨rfl, trivial⟩
    refine nrm ?_
    refine wp_seq ?_
    refine wp_seq ?_
    refine wp_region_lit ?_
    refine seq_op0 haq14 hsq14 (opT_move (v := .int .i64 r2) rfl rfl) rfl rfl ?_
    rintro u aq15 wq15 hf haq15 hsq15
    obtain rfl := Eq.symm hf
    clear haq14 hsq14 aq14 wq14
    refine seq_op0 haq15 hsq15 (opT_cmp (k := .i64) (m := r2) (n := 0) (c := decide (r2 < 0)) rfl rfl rfl rfl rfl) rfl rfl ?_
    rintro u aq16 wq16 hf haq16 hsq16
    obtain rfl := Eq.symm hf
    clear haq15 hsq15 aq15 wq15
    refine wpList_nil ?_
    replace haq16 := haq16.pick' (L' := [(1, .int .i64 r2), (16, .bool (decide (r2 < 0)))]) ⟨rfl, rfl, trivial⟩
    refine nrm ?_
    rcases two (decide (r2 < 0)) with hb2 | hb2
    · replace hm := ifFe hb2 hm
      refine cnd_false (b := decide (r2 < 0)) haq16 rfl rfl hb2 ?_
      refine wp_skip ?_
      refine nrm ?_
      refine wp_seq ?_
      refine wp_region_lit ?_
      refine seq_op0 haq16 hsq16 (opT_move (v := .int .i64 r2) rfl rfl) rfl rfl ?_
      rintro u aq17 wq17 hf haq17 hsq17
      obtain rfl := Eq.symm hf
      clear haq16 hsq16 aq16 wq16
      refine seq_op0 haq17 hsq17 (opT_assign (v := .int .i64 r2) rfl rfl) rfl rfl ?_
      rintro u aq18 wq18 hf haq18 hsq18
      obtain rfl := Eq.symm hf
      clear haq17 hsq17 aq17 wq17
      refine wpList_nil ?_
      replace haq18 := haq18.pick' (L' := [(4, .int .i64 r2)]) ⟨rfl, trivial⟩
      refine nrm ?_
      refine wp_ret ?_
      obtain rfl := Option.some.inj hm
      exact ret_1 haq18 rfl (res_tmp haq18 rfl) ⟨_, rfl, rfl, _, Hp.le.rfl, St.sel (hsq18) 2 [1] rfl rfl⟩
    · replace hm := ifTe hb2 hm
      refine cnd_true (b := decide (r2 < 0)) haq16 rfl rfl hb2 ?_
      refine wp_seq ?_
      refine wp_region_lit ?_
      refine seq_op0 haq16 hsq16 (opT_assign (v := .int .i64 (-1)) rfl rfl) rfl rfl ?_
      rintro u aq19 wq19 hf haq19 hsq19
      obtain rfl := Eq.symm hf
      clear haq16 hsq16 aq16 wq16
      refine wpList_nil ?_
      replace haq19 := haq19.pick' (L' := [(4, .int .i64 (-1))]) ⟨rfl, trivial⟩
      refine nrm ?_
      refine wp_ret ?_
      refine thenR ?_
      obtain rfl := Option.some.inj hm
      exact ret_1 haq19 rfl (res_tmp haq19 rfl) ⟨_, rfl, rfl, _, Hp.le.rfl, St.sel (hsq19) 2 [1] rfl rfl⟩
  · replace hm := ifTe hb1 hm
    refine cnd_true (b := decide (r1 < 0)) haq9 rfl rfl hb1 ?_
    refine wp_seq ?_
    refine wp_region_lit ?_
    refine seq_op0 haq9 hsq9 (opT_assign (v := .int .i64 (-1)) rfl rfl) rfl rfl ?_
    rintro u aq20 wq20 hf haq20 hsq20
    obtain rfl := Eq.symm hf
    clear haq9 hsq9 aq9 wq9
    refine wpList_nil ?_
    replace haq20 := haq20.pick' (L' := [(4, .int .i64 (-1))]) ⟨rfl, trivial⟩
    refine nrm ?_
    refine wp_ret ?_
    refine thenR ?_
    obtain rfl := Option.some.inj hm
    exact ret_1 haq20 rfl (res_tmp haq20 rfl) ⟨_, rfl, rfl, _, Hp.le.rfl, St.sel (hsq20) 2 [1] rfl rfl⟩
end Go.Proofs.Ytcihbmdppgpmjaa.D
