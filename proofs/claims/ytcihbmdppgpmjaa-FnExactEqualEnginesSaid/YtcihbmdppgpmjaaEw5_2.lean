/- Printed by dec.py: models of functions and the walks that show them. -/
import Derived.Test.YtcihbmdppgpmjaaEw3_2
import Derived.Test.YtcihbmdppgpmjaaEw4_1
set_option linter.unusedVariables false
set_option linter.unusedSimpArgs false
set_option linter.unnecessarySimpa false
set_option maxRecDepth 100000
namespace Go.Proofs.Ytcihbmdppgpmjaa.D
open Go.RowKit
set_option maxHeartbeats 8000000 in
theorem c_w_eqRegistry (p0a : (List (Int × (List Bool) × (List (List Int)))) × (List (Int × ((List (Int × Int × Int × Int))) × Int))) (p1b : (List (Int × (List Bool) × (List (List Int)))) × (List (Int × ((List (Int × Int × Int × Int))) × Int))) (r : Bool) (hm : m_w_eqRegistry p0a p1b = some r) {I : Hp} {w0 : World} (va0 : Value) (va1 : Value) (va2 : Value) (va3 : Value) (ra0 : (rSlice 27 (rProd rInt (rProd (rSlice 4 rBool) (rSlice 34 (rSlice 3 rInt))))).rd I [va0] p0a.1) (ra1 : (rSlice 147 (rProd rInt (rProd (rSlice 197 (rProd rInt (rProd rInt (rProd rInt rInt)))) rInt))).rd I [va1] p0a.2) (ra2 : (rSlice 27 (rProd rInt (rProd (rSlice 4 rBool) (rSlice 34 (rSlice 3 rInt))))).rd I [va2] p1b.1) (ra3 : (rSlice 147 (rProd rInt (rProd (rSlice 197 (rProd rInt (rProd rInt (rProd rInt rInt)))) rInt))).rd I [va3] p1b.2) : Con Try.prog 90 #[.agg #[va0, va1], .agg #[va2, va3]] I w0 [] (fun v => v = .bool r) (fun v => []) := by
  refine con_of_wp (n := 17) [(0, .agg #[va0, va1]), (1, .agg #[va2, va3])] Try.func90 rfl rfl (Nat.le_of_ble_eq_true rfl) (args_all ⟨rfl, rfl, trivial⟩) (fun F w a ha hs => ?_) (fun v => trivial)
  unfold m_w_eqRegistry at hm
  refine wp_seq ?_
  refine wp_region_lit ?_
  refine seq_op ha hs rfl (opT_box (u := .agg #[va0, va1]) (l := [va0, va1]) rfl rfl rfl) (List.Perm.refl _) rfl ?_
  rintro _ aq1 wq1 ⟨g1, rfl⟩ haq1 (hsq1 : St I w0 wq1 [Ch.blk g1 [va0, va1] 75, F])
  clear ha hs a w
  refine seq_op haq1 hsq1 rfl (opT_box (u := .agg #[va2, va3]) (l := [va2, va3]) rfl rfl rfl) (List.Perm.refl _) rfl ?_
  rintro _ aq2 wq2 ⟨g2, rfl⟩ haq2 (hsq2 : St I w0 wq2 [Ch.blk g2 [va2, va3] 75, Ch.blk g1 [va0, va1] 75, F])
  clear haq1 hsq1 aq1 wq1
  refine seq_op0 haq2 hsq2 (opT_assign (v := .bool false) rfl rfl) rfl rfl ?_
  rintro u aq3 wq3 hf haq3 hsq3
  obtain rfl := Eq.symm hf
  clear haq2 hsq2 aq2 wq2
  refine wpList_nil ?_
  replace haq3 := haq3.pick' (L' := [(2, .pointer (some ⟨g1, 0, none⟩)), (3, .pointer (some ⟨g2, 0, none⟩))]) ⟨rfl, rfl, trivial⟩
  refine nrm ?_
  refine wp_seq ?_
  refine wp_seq ?_
  refine wp_region_lit ?_
  refine seq_op0 haq3 hsq3 (opT_field_addr (g := g1) (b := 0) tf75_0 rfl rfl) rfl rfl ?_
  rintro u aq4 wq4 hf haq4 hsq4
  obtain rfl := Eq.symm hf
  clear haq3 hsq3 aq3 wq3
  refine seq_op haq4 hsq4 rfl (opT_load_blk (g := g1) (off := 0) (E := 75) (l := [va0, va1]) (d := [va0]) (u := va0) ti72 rfl rfl rfl rfl rfl rfl) (perm_front (i := 1) rfl) rfl ?_
  rintro u aq5 wq5 hf haq5 (hsq5 : St I w0 wq5 [Ch.blk g1 [va0, va1] 75, Ch.blk g2 [va2, va3] 75, F])
  obtain rfl := Eq.symm hf
  clear haq4 hsq4 aq4 wq4
  refine seq_op0 haq5 hsq5 (opT_field_addr (g := g2) (b := 0) tf75_0 rfl rfl) rfl rfl ?_
  rintro u aq6 wq6 hf haq6 hsq6
  obtain rfl := Eq.symm hf
  clear haq5 hsq5 aq5 wq5
  refine seq_op haq6 hsq6 rfl (opT_load_blk (g := g2) (off := 0) (E := 75) (l := [va2, va3]) (d := [va2]) (u := va2) ti72 rfl rfl rfl rfl rfl rfl) (perm_front (i := 1) rfl) rfl ?_
  rintro u aq7 wq7 hf haq7 (hsq7 : St I w0 wq7 [Ch.blk g2 [va2, va3] 75, Ch.blk g1 [va0, va1] 75, F])
  obtain rfl := Eq.symm hf
  clear haq6 hsq6 aq6 wq6
  obtain ⟨r1, e1, hm⟩ := bind_some hm
  refine seq_op0 haq7 hsq7 (opT_call (args := #[va0, va2]) (first := #[]) (captured := #[]) en143 rfl rfl rfl (c_w_eqAutomatonS p0a.1 p1b.1 _ e1 va0 va2 ra0 ra2)) rfl rfl ?_
  rintro u aq8 wq8 hf haq8 hsq8
  obtain rfl := Eq.symm hf
  clear haq7 hsq7 aq7 wq7
  refine seq_op0 haq8 hsq8 (opT_not (b := r1) rfl rfl) rfl rfl ?_
  rintro u aq9 wq9 hf haq9 hsq9
  obtain rfl := Eq.symm hf
  clear haq8 hsq8 aq8 wq8
  refine wpList_nil ?_
  replace haq9 := haq9.pick' (L' := [(2, .pointer (some ⟨g1, 0, none⟩)), (3, .pointer (some ⟨g2, 0, none⟩)), (10, .bool (!r1))]) ⟨rfl, rfl, rfl, trivial⟩
  refine nrm ?_
  rcases two (r1) with hb1 | hb1
  · replace hm := ifFe hb1 hm
    refine cnd_true (b := !r1) haq9 rfl rfl (notT hb1) ?_
    refine wp_seq ?_
    refine wp_region_lit ?_
    refine seq_op0 haq9 hsq9 (opT_assign (v := .bool false) rfl rfl) rfl rfl ?_
    rintro u aq10 wq10 hf haq10 hsq10
    obtain rfl := Eq.symm hf
    clear haq9 hsq9 aq9 wq9
    refine wpList_nil ?_
    replace haq10 := haq10.pick' (L' := [(4, .bool false)]) ⟨rfl, trivial⟩
    refine nrm ?_
    refine wp_ret ?_
    refine thenR ?_
    obtain rfl := Option.some.inj hm
    exact ret_1 haq10 rfl (res_tmp haq10 rfl) ⟨_, rfl, rfl, _, Hp.le.rfl, St.sel (hsq10) 3 [2] rfl rfl⟩
  · replace hm := ifTe hb1 hm
    refine cnd_false (b := !r1) haq9 rfl rfl (notF hb1) ?_
    refine wp_skip ?_
    refine nrm ?_
    refine wp_seq ?_
    refine wp_seq ?_
    refine wp_region_lit ?_
    refine seq_op0 haq9 hsq9 (opT_field_addr (g := g1) (b := 0) tf75_1 rfl rfl) rfl rfl ?_
    rintro u aq11 wq11 hf haq11 hsq11
    obtain rfl := Eq.symm hf
    clear haq9 hsq9 aq9 wq9
    refine seq_op haq11 hsq11 rfl (opT_load_blk (g := g1) (off := 1) (E := 75) (l := [va0, va1]) (d := [va1]) (u := va1) ti73 rfl rfl rfl rfl rfl rfl) (perm_front (i := 1) rfl) rfl ?_
    rintro u aq12 wq12 hf haq12 (hsq12 : St I w0 wq12 [Ch.blk g1 [va0, va1] 75, Ch.blk g2 [va2, va3] 75, F])
    obtain rfl := Eq.symm hf
    clear haq11 hsq11 aq11 wq11
    refine seq_op0 haq12 hsq12 (opT_field_addr (g := g2) (b := 0) tf75_1 rfl rfl) rfl rfl ?_
    rintro u aq13 wq13 hf haq13 hsq13
    obtain rfl := Eq.symm hf
    clear haq12 hsq12 aq12 wq12
    refine seq_op haq13 hsq13 rfl (opT_load_blk (g := g2) (off := 1) (E := 75) (l := [va2, va3]) (d := [va3]) (u := va3) ti73 rfl rfl rfl rfl rfl rfl) (perm_front (i := 1) rfl) rfl ?_
    rintro u aq14 wq14 hf haq14 (hsq14 : St I w0 wq14 [Ch.blk g2 [va2, va3] 75, Ch.blk g1 [va0, va1] 75, F])
    obtain rfl := Eq.symm hf
    clear haq13 hsq13 aq13 wq13
    obtain ⟨r2, e2, hm⟩ := bind_some hm
    refine seq_op0 haq14 hsq14 (opT_call (args := #[va1, va3]) (first := #[]) (captured := #[]) en144 rfl rfl rfl (c_w_eqRegisteredS p0a.2 p1b.2 _ e2 va1 va3 ra1 ra3)) rfl rfl ?_
    rintro u aq15 wq15 hf haq15 hsq15
    obtain rfl := Eq.symm hf
    clear haq14 hsq14 aq14 wq14
    refine seq_op0 haq15 hsq15 (opT_not (b := r2) rfl rfl) rfl rfl ?_
    rintro u aq16 wq16 hf haq16 hsq16
    obtain rfl := Eq.symm hf
    clear haq15 hsq15 aq15 wq15
    refine wpList_nil ?_
    replace haq16 := haq16.pick' (L' := [(16, .bool (!r2))]) ⟨rfl, trivial⟩
    refine nrm ?_
    rcases two (r2) with hb2 | hb2
    · replace hm := ifFe hb2 hm
      refine cnd_true (b := !r2) haq16 rfl rfl (notT hb2) ?_
      refine wp_seq ?_
      refine wp_region_lit ?_
      refine seq_op0 haq16 hsq16 (opT_assign (v := .bool false) rfl rfl) rfl rfl ?_
      rintro u aq17 wq17 hf haq17 hsq17
      obtain rfl := Eq.symm hf
      clear haq16 hsq16 aq16 wq16
      refine wpList_nil ?_
      replace haq17 := haq17.pick' (L' := [(4, .bool false)]) ⟨rfl, trivial⟩
      refine nrm ?_
      refine wp_ret ?_
      refine thenR ?_
      obtain rfl := Option.some.inj hm
      exact ret_1 haq17 rfl (res_tmp haq17 rfl) ⟨_, rfl, rfl, _, Hp.le.rfl, St.sel (hsq17) 3 [2] rfl rfl⟩
    · replace hm := ifTe hb2 hm
      refine cnd_false (b := !r2) haq16 rfl rfl (notF hb2) ?_
      refine wp_skip ?_
      refine nrm ?_
      refine wp_seq ?_
      refine wp_region_lit ?_
      refine seq_op0 haq16 hsq16 (opT_assign (v := .bool true) rfl rfl) rfl rfl ?_
      rintro u aq18 wq18 hf haq18 hsq18
      obtain rfl := Eq.symm hf
      clear haq16 hsq16 aq16 wq16
      refine wpList_nil ?_
      replace haq18 := haq18.pick' (L' := [(4, .bool true)]) ⟨rfl, trivial⟩
      refine nrm ?_
      refine wp_ret ?_
      obtain rfl := Option.some.inj hm
      exact ret_1 haq18 rfl (res_tmp haq18 rfl) ⟨_, rfl, rfl, _, Hp.le.rfl, St.sel (hsq18) 3 [2] rfl rfl⟩
end Go.Proofs.Ytcihbmdppgpmjaa.D
