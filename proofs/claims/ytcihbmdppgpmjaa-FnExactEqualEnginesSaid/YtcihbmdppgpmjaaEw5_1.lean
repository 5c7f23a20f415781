/- Printed by dec.py: models of functions and the walks that show them. -/
import Derived.Test.YtcihbmdppgpmjaaEw3_2
import Derived.Test.YtcihbmdppgpmjaaEw4_2
set_option linter.unusedVariables false
set_option linter.unusedSimpArgs false
set_option linter.unnecessarySimpa false
set_option maxRecDepth 100000
namespace Go.Proofs.Ytcihbmdppgpmjaa.D
open Go.RowKit
set_option maxHeartbeats 8000000 in
theorem c_w_toRegistry (p0a : (List (Int × (List Bool) × (List (List Int)))) × (List (Int × ((List (Int × Int × Int × Int))) × Int))) (r : (List (Int × (List Bool) × (List (List Int)))) × (List (Int × ((List (Int × Int × Int × Int))) × Int))) (hm : m_w_toRegistry p0a = some r) {I : Hp} {w0 : World} (va0 : Value) (va1 : Value) (ra0 : (rSlice 25 (rProd rInt (rProd (rSlice 4 rBool) (rSlice 34 (rSlice 3 rInt))))).rd I [va0] p0a.1) (ra1 : (rSlice 195 (rProd rInt (rProd (rSlice 222 (rProd rInt (rProd rInt (rProd rInt rInt)))) rInt))).rd I [va1] p0a.2) : Con Try.prog 84 #[.agg #[va0, va1]] I w0 [] (fun v => ∃ h0 h1 : Value, v = .agg #[h0, h1]) (fun v => [Ch.own (rSlice 27 (rProd rInt (rProd (rSlice 4 rBool) (rSlice 34 (rSlice 3 rInt))))) [vg v [0]] r.1, Ch.own (rSlice 147 (rProd rInt (rProd (rSlice 197 (rProd rInt (rProd rInt (rProd rInt rInt)))) rInt))) [vg v [1]] r.2]) := by
  refine con_of_wp (n := 13) [(0, .agg #[va0, va1])] Try.func84 rfl rfl (Nat.le_of_ble_eq_true rfl) (args_all ⟨rfl, trivial⟩) (fun F w a ha hs => ?_) (fun v => ⟨dp_own (dp_slice (dp_prod dp_int (dp_prod (dp_slice dp_bool) (dp_slice (dp_slice dp_int))))), dp_own (dp_slice (dp_prod dp_int (dp_prod (dp_slice (dp_prod dp_int (dp_prod dp_int (dp_prod dp_int dp_int)))) dp_int))), trivial⟩)
  unfold m_w_toRegistry at hm
  refine wp_seq ?_
  refine wp_region_lit ?_
  refine seq_op ha hs rfl (opT_box (u := .agg #[va0, va1]) (l := [va0, va1]) rfl rfl rfl) (List.Perm.refl _) rfl ?_
  rintro _ aq1 wq1 ⟨g1, rfl⟩ haq1 (hsq1 : St I w0 wq1 [Ch.blk g1 [va0, va1] 63, F])
  clear ha hs a w
  refine seq_op haq1 hsq1 rfl (opT_alloc (l := [.slice none 0 0, .slice none 0 0]) tz75 rfl rfl) (List.Perm.refl _) rfl ?_
  rintro _ aq2 wq2 ⟨g2, rfl⟩ haq2 (hsq2 : St I w0 wq2 [Ch.blk g2 [.slice none 0 0, .slice none 0 0] 75, Ch.blk g1 [va0, va1] 63, F])
  clear haq1 hsq1 aq1 wq1
  refine wpList_nil ?_
  replace haq2 := haq2.pick' (L' := [(1, .pointer (some ⟨g1, 0, none⟩)), (2, .pointer (some ⟨g2, 0, none⟩))]) ⟨rfl, rfl, trivial⟩
  refine nrm ?_
  refine wp_seq ?_
  refine wp_region_lit ?_
  refine seq_op haq2 hsq2 rfl (opT_alloc (l := [.slice none 0 0, .slice none 0 0]) tz75 rfl rfl) (List.Perm.refl _) rfl ?_
  rintro _ aq3 wq3 ⟨g3, rfl⟩ haq3 (hsq3 : St I w0 wq3 [Ch.blk g3 [.slice none 0 0, .slice none 0 0] 75, Ch.blk g2 [.slice none 0 0, .slice none 0 0] 75, Ch.blk g1 [va0, va1] 63, F])
  clear haq2 hsq2 aq2 wq2
  refine wpList_nil ?_
  replace haq3 := haq3.pick' (L' := [(1, .pointer (some ⟨g1, 0, none⟩)), (2, .pointer (some ⟨g2, 0, none⟩)), (3, .pointer (some ⟨g3, 0, none⟩))]) ⟨rfl, rfl, rfl, trivial⟩
  refine nrm ?_
  refine wp_seq ?_
  refine wp_region_lit ?_
  refine seq_op0 haq3 hsq3 (opT_field_addr (g := g1) (b := 0) tf63_0 rfl rfl) rfl rfl ?_
  rintro u aq4 wq4 hf haq4 hsq4
  obtain rfl := Eq.symm hf
  clear haq3 hsq3 aq3 wq3
  refine seq_op haq4 hsq4 rfl (opT_load_blk (g := g1) (off := 0) (E := 63) (l := [va0, va1]) (d := [va0]) (u := va0) ti60 rfl rfl rfl rfl rfl rfl) (perm_front (i := 2) rfl) rfl ?_
  rintro u aq5 wq5 hf haq5 (hsq5 : St I w0 wq5 [Ch.blk g1 [va0, va1] 63, Ch.blk g3 [.slice none 0 0, .slice none 0 0] 75, Ch.blk g2 [.slice none 0 0, .slice none 0 0] 75, F])
  obtain rfl := Eq.symm hf
  clear haq4 hsq4 aq4 wq4
  obtain ⟨r1, e1, hm⟩ := bind_some hm
  refine seq_op haq5 hsq5 rfl (opT_call (args := #[va0]) (first := #[]) (captured := #[]) en134 rfl rfl rfl (c_w_toAutomatonS p0a.1 _ e1 va0 ra0)) (List.Perm.refl _) rfl ?_
  rintro v1 aq6 wq6 - haq6 (hsq6 : St I w0 wq6 [Ch.own (rSlice 27 (rProd rInt (rProd (rSlice 4 rBool) (rSlice 34 (rSlice 3 rInt))))) [v1] r1, Ch.blk g1 [va0, va1] 63, Ch.blk g3 [.slice none 0 0, .slice none 0 0] 75, Ch.blk g2 [.slice none 0 0, .slice none 0 0] 75, F])
  clear haq5 hsq5 aq5 wq5
  refine seq_op0 haq6 hsq6 (opT_field_addr (g := g3) (b := 0) tf75_0 rfl rfl) rfl rfl ?_
  rintro u aq7 wq7 hf haq7 hsq7
  obtain rfl := Eq.symm hf
  clear haq6 hsq6 aq6 wq6
  refine seq_op haq7 hsq7 rfl (opT_store_blk (g := g3) (off := 0) (l := [.slice none 0 0, .slice none 0 0]) (d := [v1]) (E := 75) (u := v1) ti72 rfl rfl rfl (Hd.cells (St.hd hsq7 0 rfl).1) rfl (allC (Hd.one (St.hd hsq7 0 rfl).1) allN) (Nat.le_of_ble_eq_true rfl)) (perm_front (i := 2) rfl) rfl ?_
  rintro _ aq8 wq8 - haq8 (hsq8 : St I w0 wq8 [Ch.blk g3 [v1, .slice none 0 0] 75, Ch.own (rSlice 27 (rProd rInt (rProd (rSlice 4 rBool) (rSlice 34 (rSlice 3 rInt))))) [v1] r1, Ch.blk g1 [va0, va1] 63, Ch.blk g2 [.slice none 0 0, .slice none 0 0] 75, F])
  clear haq7 hsq7 aq7 wq7
  refine wpList_nil ?_
  replace haq8 := haq8.pick' (L' := [(1, .pointer (some ⟨g1, 0, none⟩)), (2, .pointer (some ⟨g2, 0, none⟩)), (3, .pointer (some ⟨g3, 0, none⟩))]) ⟨rfl, rfl, rfl, trivial⟩
  refine nrm ?_
  refine wp_seq ?_
  refine wp_region_lit ?_
  refine seq_op0 haq8 hsq8 (opT_field_addr (g := g1) (b := 0) tf63_1 rfl rfl) rfl rfl ?_
  rintro u aq9 wq9 hf haq9 hsq9
  obtain rfl := Eq.symm hf
  clear haq8 hsq8 aq8 wq8
  refine seq_op haq9 hsq9 rfl (opT_load_blk (g := g1) (off := 1) (E := 63) (l := [va0, va1]) (d := [va1]) (u := va1) ti61 rfl rfl rfl rfl rfl rfl) (perm_front (i := 2) rfl) rfl ?_
  rintro u aq10 wq10 hf haq10 (hsq10 : St I w0 wq10 [Ch.blk g1 [va0, va1] 63, Ch.blk g3 [v1, .slice none 0 0] 75, Ch.own (rSlice 27 (rProd rInt (rProd (rSlice 4 rBool) (rSlice 34 (rSlice 3 rInt))))) [v1] r1, Ch.blk g2 [.slice none 0 0, .slice none 0 0] 75, F])
  obtain rfl := Eq.symm hf
  clear haq9 hsq9 aq9 wq9
  obtain ⟨r2, e2, hm⟩ := bind_some hm
  refine seq_op haq10 hsq10 rfl (opT_call (args := #[va1]) (first := #[]) (captured := #[]) en135 rfl rfl rfl (c_w_toRegisteredS p0a.2 _ e2 va1 ra1)) (List.Perm.refl _) rfl ?_
  rintro v2 aq11 wq11 - haq11 (hsq11 : St I w0 wq11 [Ch.own (rSlice 147 (rProd rInt (rProd (rSlice 197 (rProd rInt (rProd rInt (rProd rInt rInt)))) rInt))) [v2] r2, Ch.blk g1 [va0, va1] 63, Ch.blk g3 [v1, .slice none 0 0] 75, Ch.own (rSlice 27 (rProd rInt (rProd (rSlice 4 rBool) (rSlice 34 (rSlice 3 rInt))))) [v1] r1, Ch.blk g2 [.slice none 0 0, .slice none 0 0] 75, F])
  clear haq10 hsq10 aq10 wq10
  refine seq_op0 haq11 hsq11 (opT_field_addr (g := g3) (b := 0) tf75_1 rfl rfl) rfl rfl ?_
  rintro u aq12 wq12 hf haq12 hsq12
  obtain rfl := Eq.symm hf
  clear haq11 hsq11 aq11 wq11
  refine seq_op haq12 hsq12 rfl (opT_store_blk (g := g3) (off := 1) (l := [v1, .slice none 0 0]) (d := [v2]) (E := 75) (u := v2) ti73 rfl rfl rfl (Hd.cells (St.hd hsq12 0 rfl).1) rfl (allC (Hd.one (St.hd hsq12 0 rfl).1) allN) (Nat.le_of_ble_eq_true rfl)) (perm_front (i := 2) rfl) rfl ?_
  rintro _ aq13 wq13 - haq13 (hsq13 : St I w0 wq13 [Ch.blk g3 [v1, v2] 75, Ch.own (rSlice 147 (rProd rInt (rProd (rSlice 197 (rProd rInt (rProd rInt (rProd rInt rInt)))) rInt))) [v2] r2, Ch.blk g1 [va0, va1] 63, Ch.own (rSlice 27 (rProd rInt (rProd (rSlice 4 rBool) (rSlice 34 (rSlice 3 rInt))))) [v1] r1, Ch.blk g2 [.slice none 0 0, .slice none 0 0] 75, F])
  clear haq12 hsq12 aq12 wq12
  refine wpList_nil ?_
  replace haq13 := haq13.pick' (L' := [(2, .pointer (some ⟨g2, 0, none⟩)), (3, .pointer (some ⟨g3, 0, none⟩))]) ⟨rfl, rfl, trivial⟩
  refine nrm ?_
  refine wp_seq ?_
  refine wp_region_lit ?_
  refine seq_op haq13 hsq13 rfl (opT_load_blk (g := g3) (off := 0) (E := 75) (l := [v1, v2]) (d := [v1, v2]) (u := .agg #[v1, v2]) ti75 rfl rfl rfl rfl rfl rfl) (perm_front (i := 0) rfl) rfl ?_
  rintro u aq14 wq14 hf haq14 (hsq14 : St I w0 wq14 [Ch.blk g3 [v1, v2] 75, Ch.own (rSlice 147 (rProd rInt (rProd (rSlice 197 (rProd rInt (rProd rInt (rProd rInt rInt)))) rInt))) [v2] r2, Ch.blk g1 [va0, va1] 63, Ch.own (rSlice 27 (rProd rInt (rProd (rSlice 4 rBool) (rSlice 34 (rSlice 3 rInt))))) [v1] r1, Ch.blk g2 [.slice none 0 0, .slice none 0 0] 75, F])
  obtain rfl := Eq.symm hf
  clear haq13 hsq13 aq13 wq13
  refine seq_op haq14 hsq14 rfl (opT_store_blk (g := g2) (off := 0) (l := [.slice none 0 0, .slice none 0 0]) (d := [v1, v2]) (E := 75) (u := .agg #[v1, v2]) ti75 rfl rfl rfl rfl rfl (allC (Hd.one (St.hd hsq14 3 rfl).1) (allC (Hd.one (St.hd hsq14 1 rfl).1) allN)) (Nat.le_of_ble_eq_true rfl)) (perm_front (i := 4) rfl) rfl ?_
  rintro _ aq15 wq15 - haq15 (hsq15 : St I w0 wq15 [Ch.blk g2 [v1, v2] 75, Ch.blk g3 [v1, v2] 75, Ch.own (rSlice 147 (rProd rInt (rProd (rSlice 197 (rProd rInt (rProd rInt (rProd rInt rInt)))) rInt))) [v2] r2, Ch.blk g1 [va0, va1] 63, Ch.own (rSlice 27 (rProd rInt (rProd (rSlice 4 rBool) (rSlice 34 (rSlice 3 rInt))))) [v1] r1, F])
  clear haq14 hsq14 aq14 wq14
  refine wpList_nil ?_
  replace haq15 := haq15.pick' (L' := [(2, .pointer (some ⟨g2, 0, none⟩))]) ⟨rfl, trivial⟩
  refine nrm ?_
  refine wp_ret ?_
  obtain rfl := Option.some.inj hm
  exact ret_1 haq15 rfl (res_cell (g := g2) haq15 rfl hsq15 0 rfl ti75 rfl) ⟨_, rfl, ⟨_, _, rfl⟩, _, Hp.le.rfl, St.sel (hsq15) 6 [4, 2, 5] rfl rfl⟩
end Go.Proofs.Ytcihbmdppgpmjaa.D
