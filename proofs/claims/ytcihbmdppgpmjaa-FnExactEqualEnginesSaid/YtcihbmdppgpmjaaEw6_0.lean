/- Printed by dec.py: models of functions and the walks that show them. -/
import Derived.Test.YtcihbmdppgpmjaaEw1_1
import Derived.Test.YtcihbmdppgpmjaaEw4_3
import Derived.Test.YtcihbmdppgpmjaaEw5_1
set_option linter.unusedVariables false
set_option linter.unusedSimpArgs false
set_option linter.unnecessarySimpa false
set_option maxRecDepth 100000
namespace Go.Proofs.Ytcihbmdppgpmjaa.D
open Go.RowKit
set_option maxHeartbeats 8000000 in
theorem c_w_toEngine (p0a : (Int × (List ((List Int) × (List (Int × Int × Int × Int))))) × ((List (Int × (List Bool) × (List (List Int)))) × (List (Int × ((List (Int × Int × Int × Int))) × Int))) × (List (Int × Int × Int)) × ByteArray) (r : (Int × (List ((List Int) × (List (Int × Int × Int × Int))))) × ((List (Int × (List Bool) × (List (List Int)))) × (List (Int × ((List (Int × Int × Int × Int))) × Int))) × (List (Int × Int × Int)) × ByteArray) (hm : m_w_toEngine p0a = some r) {I : Hp} {w0 : World} (va0 : Value) (va1 : Value) (va2 : Value) (va3 : Value) (ra0 : (rSlice 37 (rProd (rSlice 3 rInt) (rSlice 128 (rProd rInt (rProd rInt (rProd rInt rInt)))))).rd I [va0] p0a.1.2) (ra1 : (rSlice 25 (rProd rInt (rProd (rSlice 4 rBool) (rSlice 34 (rSlice 3 rInt))))).rd I [va1] p0a.2.1.1) (ra2 : (rSlice 195 (rProd rInt (rProd (rSlice 222 (rProd rInt (rProd rInt (rProd rInt rInt)))) rInt))).rd I [va2] p0a.2.1.2) (ra3 : (rSlice 153 (rProd rInt (rProd rInt rInt))).rd I [va3] p0a.2.2.1) : Con Try.prog 41 #[.agg #[.int .i64 p0a.1.1, va0, va1, va2, va3, .string p0a.2.2.2]] I w0 [] (fun v => ∃ h0 h1 h2 h3 : Value, v = .agg #[.int .i64 r.1.1, h0, h1, h2, h3, .string r.2.2.2]) (fun v => [Ch.own (rSlice 45 (rProd (rSlice 3 rInt) (rSlice 126 (rProd rInt (rProd rInt (rProd rInt rInt)))))) [vg v [1]] r.1.2, Ch.own (rSlice 27 (rProd rInt (rProd (rSlice 4 rBool) (rSlice 34 (rSlice 3 rInt))))) [vg v [2]] r.2.1.1, Ch.own (rSlice 147 (rProd rInt (rProd (rSlice 197 (rProd rInt (rProd rInt (rProd rInt rInt)))) rInt))) [vg v [3]] r.2.1.2, Ch.own (rSlice 107 (rProd rInt (rProd rInt rInt))) [vg v [4]] r.2.2.1]) := by
  refine con_of_wp (n := 20) [(0, .agg #[.int .i64 p0a.1.1, va0, va1, va2, va3, .string p0a.2.2.2])] Try.func41 rfl rfl (Nat.le_of_ble_eq_true rfl) (args_all ⟨rfl, trivial⟩) (fun F w a ha hs => ?_) (fun v => ⟨dp_own (dp_slice (dp_prod (dp_slice dp_int) (dp_slice (dp_prod dp_int (dp_prod dp_int (dp_prod dp_int dp_int)))))), dp_own (dp_slice (dp_prod dp_int (dp_prod (dp_slice dp_bool) (dp_slice (dp_slice dp_int))))), dp_own (dp_slice (dp_prod dp_int (dp_prod (dp_slice (dp_prod dp_int (dp_prod dp_int (dp_prod dp_int dp_int)))) dp_int))), dp_own (dp_slice (dp_prod dp_int (dp_prod dp_int dp_int))), trivial⟩)
  unfold m_w_toEngine at hm
  refine wp_seq ?_
  refine wp_region_lit ?_
  refine seq_op ha hs rfl (opT_box (u := .agg #[.int .i64 p0a.1.1, va0, va1, va2, va3, .string p0a.2.2.2]) (l := [.int .i64 p0a.1.1, va0, va1, va2, va3, .string p0a.2.2.2]) rfl rfl rfl) (List.Perm.refl _) rfl ?_
  rintro _ aq1 wq1 ⟨g1, rfl⟩ haq1 (hsq1 : St I w0 wq1 [Ch.blk g1 [.int .i64 p0a.1.1, va0, va1, va2, va3, .string p0a.2.2.2] 66, F])
  clear ha hs a w
  refine seq_op haq1 hsq1 rfl (opT_alloc (l := [.int .i64 0, .slice none 0 0, .slice none 0 0, .slice none 0 0, .slice none 0 0, .string (⟨#[]⟩)]) tz78 rfl rfl) (List.Perm.refl _) rfl ?_
  rintro _ aq2 wq2 ⟨g2, rfl⟩ haq2 (hsq2 : St I w0 wq2 [Ch.blk g2 [.int .i64 0, .slice none 0 0, .slice none 0 0, .slice none 0 0, .slice none 0 0, .string (⟨#[]⟩)] 78, Ch.blk g1 [.int .i64 p0a.1.1, va0, va1, va2, va3, .string p0a.2.2.2] 66, F])
  clear haq1 hsq1 aq1 wq1
  refine wpList_nil ?_
  replace haq2 := haq2.pick' (L' := [(1, .pointer (some ⟨g1, 0, none⟩)), (2, .pointer (some ⟨g2, 0, none⟩))]) ⟨rfl, rfl, trivial⟩
  refine nrm ?_
  refine wp_seq ?_
  refine wp_region_lit ?_
  refine seq_op haq2 hsq2 rfl (opT_alloc (l := [.int .i64 0, .slice none 0 0, .slice none 0 0, .slice none 0 0, .slice none 0 0, .string (⟨#[]⟩)]) tz78 rfl rfl) (List.Perm.refl _) rfl ?_
  rintro _ aq3 wq3 ⟨g3, rfl⟩ haq3 (hsq3 : St I w0 wq3 [Ch.blk g3 [.int .i64 0, .slice none 0 0, .slice none 0 0, .slice none 0 0, .slice none 0 0, .string (⟨#[]⟩)] 78, Ch.blk g2 [.int .i64 0, .slice none 0 0, .slice none 0 0, .slice none 0 0, .slice none 0 0, .string (⟨#[]⟩)] 78, Ch.blk g1 [.int .i64 p0a.1.1, va0, va1, va2, va3, .string p0a.2.2.2] 66, F])
  clear haq2 hsq2 aq2 wq2
  refine wpList_nil ?_
  replace haq3 := haq3.pick' (L' := [(1, .pointer (some ⟨g1, 0, none⟩)), (2, .pointer (some ⟨g2, 0, none⟩)), (3, .pointer (some ⟨g3, 0, none⟩))]) ⟨rfl, rfl, rfl, trivial⟩
  refine nrm ?_
  refine wp_seq ?_
  refine wp_region_lit ?_
  refine seq_op0 haq3 hsq3 (opT_field_addr (g := g1) (b := 0) tf66_0 rfl rfl) rfl rfl ?_
  rintro u aq4 wq4 hf haq4 hsq4
  obtain rfl := Eq.symm hf
  clear haq3 hsq3 aq3 wq3
  refine seq_op haq4 hsq4 rfl (opT_load_blk (g := g1) (off := 0) (E := 66) (l := [.int .i64 p0a.1.1, va0, va1, va2, va3, .string p0a.2.2.2]) (d := [.int .i64 p0a.1.1, va0]) (u := .agg #[.int .i64 p0a.1.1, va0]) ti59 rfl rfl rfl rfl rfl rfl) (perm_front (i := 2) rfl) rfl ?_
  rintro u aq5 wq5 hf haq5 (hsq5 : St I w0 wq5 [Ch.blk g1 [.int .i64 p0a.1.1, va0, va1, va2, va3, .string p0a.2.2.2] 66, Ch.blk g3 [.int .i64 0, .slice none 0 0, .slice none 0 0, .slice none 0 0, .slice none 0 0, .string (⟨#[]⟩)] 78, Ch.blk g2 [.int .i64 0, .slice none 0 0, .slice none 0 0, .slice none 0 0, .slice none 0 0, .string (⟨#[]⟩)] 78, F])
  obtain rfl := Eq.symm hf
  clear haq4 hsq4 aq4 wq4
  obtain ⟨r1, e1, hm⟩ := bind_some hm
  refine seq_op haq5 hsq5 rfl (opT_call (args := #[.agg #[.int .i64 p0a.1.1, va0]]) (first := #[]) (captured := #[]) en83 rfl rfl rfl (c_w_toHistory (p0a.1.1, p0a.1.2) _ e1 va0 ra0)) (List.Perm.refl _) rfl ?_
  rintro u aq6 wq6 ⟨v1, rfl⟩ haq6 (hsq6 : St I w0 wq6 [Ch.own (rSlice 45 (rProd (rSlice 3 rInt) (rSlice 126 (rProd rInt (rProd rInt (rProd rInt rInt)))))) [v1] r1.2, Ch.blk g1 [.int .i64 p0a.1.1, va0, va1, va2, va3, .string p0a.2.2.2] 66, Ch.blk g3 [.int .i64 0, .slice none 0 0, .slice none 0 0, .slice none 0 0, .slice none 0 0, .string (⟨#[]⟩)] 78, Ch.blk g2 [.int .i64 0, .slice none 0 0, .slice none 0 0, .slice none 0 0, .slice none 0 0, .string (⟨#[]⟩)] 78, F])
  clear haq5 hsq5 aq5 wq5
  refine seq_op0 haq6 hsq6 (opT_field_addr (g := g3) (b := 0) tf78_0 rfl rfl) rfl rfl ?_
  rintro u aq7 wq7 hf haq7 hsq7
  obtain rfl := Eq.symm hf
  clear haq6 hsq6 aq6 wq6
  refine seq_op haq7 hsq7 rfl (opT_store_blk (g := g3) (off := 0) (l := [.int .i64 0, .slice none 0 0, .slice none 0 0, .slice none 0 0, .slice none 0 0, .string (⟨#[]⟩)]) (d := [.int .i64 r1.1, v1]) (E := 78) (u := .agg #[.int .i64 r1.1, v1]) ti71 rfl rfl rfl rfl rfl (allC rfl (allC (Hd.one (St.hd hsq7 0 rfl).1) allN)) (Nat.le_of_ble_eq_true rfl)) (perm_front (i := 2) rfl) rfl ?_
  rintro _ aq8 wq8 - haq8 (hsq8 : St I w0 wq8 [Ch.blk g3 [.int .i64 r1.1, v1, .slice none 0 0, .slice none 0 0, .slice none 0 0, .string (⟨#[]⟩)] 78, Ch.own (rSlice 45 (rProd (rSlice 3 rInt) (rSlice 126 (rProd rInt (rProd rInt (rProd rInt rInt)))))) [v1] r1.2, Ch.blk g1 [.int .i64 p0a.1.1, va0, va1, va2, va3, .string p0a.2.2.2] 66, Ch.blk g2 [.int .i64 0, .slice none 0 0, .slice none 0 0, .slice none 0 0, .slice none 0 0, .string (⟨#[]⟩)] 78, F])
  clear haq7 hsq7 aq7 wq7
  refine wpList_nil ?_
  replace haq8 := haq8.pick' (L' := [(1, .pointer (some ⟨g1, 0, none⟩)), (2, .pointer (some ⟨g2, 0, none⟩)), (3, .pointer (some ⟨g3, 0, none⟩))]) ⟨rfl, rfl, rfl, trivial⟩
  refine nrm ?_
  refine wp_seq ?_
  refine wp_region_lit ?_
  refine seq_op0 haq8 hsq8 (opT_field_addr (g := g1) (b := 0) tf66_1 rfl rfl) rfl rfl ?_
  rintro u aq9 wq9 hf haq9 hsq9
  obtain rfl := Eq.symm hf
  clear haq8 hsq8 aq8 wq8
  refine seq_op haq9 hsq9 rfl (opT_load_blk (g := g1) (off := 2) (E := 66) (l := [.int .i64 p0a.1.1, va0, va1, va2, va3, .string p0a.2.2.2]) (d := [va1, va2]) (u := .agg #[va1, va2]) ti63 rfl rfl rfl rfl rfl rfl) (perm_front (i := 2) rfl) rfl ?_
  rintro u aq10 wq10 hf haq10 (hsq10 : St I w0 wq10 [Ch.blk g1 [.int .i64 p0a.1.1, va0, va1, va2, va3, .string p0a.2.2.2] 66, Ch.blk g3 [.int .i64 r1.1, v1, .slice none 0 0, .slice none 0 0, .slice none 0 0, .string (⟨#[]⟩)] 78, Ch.own (rSlice 45 (rProd (rSlice 3 rInt) (rSlice 126 (rProd rInt (rProd rInt (rProd rInt rInt)))))) [v1] r1.2, Ch.blk g2 [.int .i64 0, .slice none 0 0, .slice none 0 0, .slice none 0 0, .slice none 0 0, .string (⟨#[]⟩)] 78, F])
  obtain rfl := Eq.symm hf
  clear haq9 hsq9 aq9 wq9
  obtain ⟨r2, e2, hm⟩ := bind_some hm
  refine seq_op haq10 hsq10 rfl (opT_call (args := #[.agg #[va1, va2]]) (first := #[]) (captured := #[]) en84 rfl rfl rfl (c_w_toRegistry (p0a.2.1.1, p0a.2.1.2) _ e2 va1 va2 ra1 ra2)) (List.Perm.refl _) rfl ?_
  rintro u aq11 wq11 ⟨v2, v3, rfl⟩ haq11 (hsq11 : St I w0 wq11 [Ch.own (rSlice 27 (rProd rInt (rProd (rSlice 4 rBool) (rSlice 34 (rSlice 3 rInt))))) [v2] r2.1, Ch.own (rSlice 147 (rProd rInt (rProd (rSlice 197 (rProd rInt (rProd rInt (rProd rInt rInt)))) rInt))) [v3] r2.2, Ch.blk g1 [.int .i64 p0a.1.1, va0, va1, va2, va3, .string p0a.2.2.2] 66, Ch.blk g3 [.int .i64 r1.1, v1, .slice none 0 0, .slice none 0 0, .slice none 0 0, .string (⟨#[]⟩)] 78, Ch.own (rSlice 45 (rProd (rSlice 3 rInt) (rSlice 126 (rProd rInt (rProd rInt (rProd rInt rInt)))))) [v1] r1.2, Ch.blk g2 [.int .i64 0, .slice none 0 0, .slice none 0 0, .slice none 0 0, .slice none 0 0, .string (⟨#[]⟩)] 78, F])
  clear haq10 hsq10 aq10 wq10
  refine seq_op0 haq11 hsq11 (opT_field_addr (g := g3) (b := 0) tf78_1 rfl rfl) rfl rfl ?_
  rintro u aq12 wq12 hf haq12 hsq12
  obtain rfl := Eq.symm hf
  clear haq11 hsq11 aq11 wq11
  refine seq_op haq12 hsq12 rfl (opT_store_blk (g := g3) (off := 2) (l := [.int .i64 r1.1, v1, .slice none 0 0, .slice none 0 0, .slice none 0 0, .string (⟨#[]⟩)]) (d := [v2, v3]) (E := 78) (u := .agg #[v2, v3]) ti75 rfl rfl rfl rfl rfl (allC (Hd.one (St.hd hsq12 0 rfl).1) (allC (Hd.one (St.hd hsq12 1 rfl).1) allN)) (Nat.le_of_ble_eq_true rfl)) (perm_front (i := 3) rfl) rfl ?_
  rintro _ aq13 wq13 - haq13 (hsq13 : St I w0 wq13 [Ch.blk g3 [.int .i64 r1.1, v1, v2, v3, .slice none 0 0, .string (⟨#[]⟩)] 78, Ch.own (rSlice 27 (rProd rInt (rProd (rSlice 4 rBool) (rSlice 34 (rSlice 3 rInt))))) [v2] r2.1, Ch.own (rSlice 147 (rProd rInt (rProd (rSlice 197 (rProd rInt (rProd rInt (rProd rInt rInt)))) rInt))) [v3] r2.2, Ch.blk g1 [.int .i64 p0a.1.1, va0, va1, va2, va3, .string p0a.2.2.2] 66, Ch.own (rSlice 45 (rProd (rSlice 3 rInt) (rSlice 126 (rProd rInt (rProd rInt (rProd rInt rInt)))))) [v1] r1.2, Ch.blk g2 [.int .i64 0, .slice none 0 0, .slice none 0 0, .slice none 0 0, .slice none 0 0, .string (⟨#[]⟩)] 78, F])
  clear haq12 hsq12 aq12 wq12
  refine wpList_nil ?_
  replace haq13 := haq13.pick' (L' := [(1, .pointer (some ⟨g1, 0, none⟩)), (2, .pointer (some ⟨g2, 0, none⟩)), (3, .pointer (some ⟨g3, 0, none⟩))]) ⟨rfl, rfl, rfl, trivial⟩
  refine nrm ?_
  refine wp_seq ?_
  refine wp_region_lit ?_
  refine seq_op0 haq13 hsq13 (opT_field_addr (g := g1) (b := 0) tf66_2 rfl rfl) rfl rfl ?_
  rintro u aq14 wq14 hf haq14 hsq14
  obtain rfl := Eq.symm hf
  clear haq13 hsq13 aq13 wq13
  refine seq_op haq14 hsq14 rfl (opT_load_blk (g := g1) (off := 4) (E := 66) (l := [.int .i64 p0a.1.1, va0, va1, va2, va3, .string p0a.2.2.2]) (d := [va3]) (u := va3) ti64 rfl rfl rfl rfl rfl rfl) (perm_front (i := 3) rfl) rfl ?_
  rintro u aq15 wq15 hf haq15 (hsq15 : St I w0 wq15 [Ch.blk g1 [.int .i64 p0a.1.1, va0, va1, va2, va3, .string p0a.2.2.2] 66, Ch.blk g3 [.int .i64 r1.1, v1, v2, v3, .slice none 0 0, .string (⟨#[]⟩)] 78, Ch.own (rSlice 27 (rProd rInt (rProd (rSlice 4 rBool) (rSlice 34 (rSlice 3 rInt))))) [v2] r2.1, Ch.own (rSlice 147 (rProd rInt (rProd (rSlice 197 (rProd rInt (rProd rInt (rProd rInt rInt)))) rInt))) [v3] r2.2, Ch.own (rSlice 45 (rProd (rSlice 3 rInt) (rSlice 126 (rProd rInt (rProd rInt (rProd rInt rInt)))))) [v1] r1.2, Ch.blk g2 [.int .i64 0, .slice none 0 0, .slice none 0 0, .slice none 0 0, .slice none 0 0, .string (⟨#[]⟩)] 78, F])
  obtain rfl := Eq.symm hf
  clear haq14 hsq14 aq14 wq14
  obtain ⟨r3, e3, hm⟩ := bind_some hm
  refine seq_op haq15 hsq15 rfl (opT_call (args := #[va3]) (first := #[]) (captured := #[]) en85 rfl rfl rfl (c_w_toSubscriberS p0a.2.2.1 _ e3 va3 ra3)) (List.Perm.refl _) rfl ?_
  rintro v4 aq16 wq16 - haq16 (hsq16 : St I w0 wq16 [Ch.own (rSlice 107 (rProd rInt (rProd rInt rInt))) [v4] r3, Ch.blk g1 [.int .i64 p0a.1.1, va0, va1, va2, va3, .string p0a.2.2.2] 66, Ch.blk g3 [.int .i64 r1.1, v1, v2, v3, .slice none 0 0, .string (⟨#[]⟩)] 78, Ch.own (rSlice 27 (rProd rInt (rProd (rSlice 4 rBool) (rSlice 34 (rSlice 3 rInt))))) [v2] r2.1, Ch.own (rSlice 147 (rProd rInt (rProd (rSlice 197 (rProd rInt (rProd rInt (rProd rInt rInt)))) rInt))) [v3] r2.2, Ch.own (rSlice 45 (rProd (rSlice 3 rInt) (rSlice 126 (rProd rInt (rProd rInt (rProd rInt rInt)))))) [v1] r1.2, Ch.blk g2 [.int .i64 0, .slice none 0 0, .slice none 0 0, .slice none 0 0, .slice none 0 0, .string (⟨#[]⟩)] 78, F])
  clear haq15 hsq15 aq15 wq15
  refine seq_op0 haq16 hsq16 (opT_field_addr (g := g3) (b := 0) tf78_2 rfl rfl) rfl rfl ?_
  rintro u aq17 wq17 hf haq17 hsq17
  obtain rfl := Eq.symm hf
  clear haq16 hsq16 aq16 wq16
  refine seq_op haq17 hsq17 rfl (opT_store_blk (g := g3) (off := 4) (l := [.int .i64 r1.1, v1, v2, v3, .slice none 0 0, .string (⟨#[]⟩)]) (d := [v4]) (E := 78) (u := v4) ti76 rfl rfl rfl (Hd.cells (St.hd hsq17 0 rfl).1) rfl (allC (Hd.one (St.hd hsq17 0 rfl).1) allN) (Nat.le_of_ble_eq_true rfl)) (perm_front (i := 2) rfl) rfl ?_
  rintro _ aq18 wq18 - haq18 (hsq18 : St I w0 wq18 [Ch.blk g3 [.int .i64 r1.1, v1, v2, v3, v4, .string (⟨#[]⟩)] 78, Ch.own (rSlice 107 (rProd rInt (rProd rInt rInt))) [v4] r3, Ch.blk g1 [.int .i64 p0a.1.1, va0, va1, va2, va3, .string p0a.2.2.2] 66, Ch.own (rSlice 27 (rProd rInt (rProd (rSlice 4 rBool) (rSlice 34 (rSlice 3 rInt))))) [v2] r2.1, Ch.own (rSlice 147 (rProd rInt (rProd (rSlice 197 (rProd rInt (rProd rInt (rProd rInt rInt)))) rInt))) [v3] r2.2, Ch.own (rSlice 45 (rProd (rSlice 3 rInt) (rSlice 126 (rProd rInt (rProd rInt (rProd rInt rInt)))))) [v1] r1.2, Ch.blk g2 [.int .i64 0, .slice none 0 0, .slice none 0 0, .slice none 0 0, .slice none 0 0, .string (⟨#[]⟩)] 78, F])
  clear haq17 hsq17 aq17 wq17
  refine wpList_nil ?_
  replace haq18 := haq18.pick' (L' := [(1, .pointer (some ⟨g1, 0, none⟩)), (2, .pointer (some ⟨g2, 0, none⟩)), (3, .pointer (some ⟨g3, 0, none⟩))]) ⟨rfl, rfl, rfl, trivial⟩
  refine nrm ?_
  refine wp_seq ?_
  refine wp_region_lit ?_
  refine seq_op0 haq18 hsq18 (opT_field_addr (g := g1) (b := 0) tf66_3 rfl rfl) rfl rfl ?_
  rintro u aq19 wq19 hf haq19 hsq19
  obtain rfl := Eq.symm hf
  clear haq18 hsq18 aq18 wq18
  refine seq_op haq19 hsq19 rfl (opT_load_blk (g := g1) (off := 5) (E := 66) (l := [.int .i64 p0a.1.1, va0, va1, va2, va3, .string p0a.2.2.2]) (d := [.string p0a.2.2.2]) (u := .string p0a.2.2.2) ti9 rfl rfl rfl rfl rfl rfl) (perm_front (i := 2) rfl) rfl ?_
  rintro u aq20 wq20 hf haq20 (hsq20 : St I w0 wq20 [Ch.blk g1 [.int .i64 p0a.1.1, va0, va1, va2, va3, .string p0a.2.2.2] 66, Ch.blk g3 [.int .i64 r1.1, v1, v2, v3, v4, .string (⟨#[]⟩)] 78, Ch.own (rSlice 107 (rProd rInt (rProd rInt rInt))) [v4] r3, Ch.own (rSlice 27 (rProd rInt (rProd (rSlice 4 rBool) (rSlice 34 (rSlice 3 rInt))))) [v2] r2.1, Ch.own (rSlice 147 (rProd rInt (rProd (rSlice 197 (rProd rInt (rProd rInt (rProd rInt rInt)))) rInt))) [v3] r2.2, Ch.own (rSlice 45 (rProd (rSlice 3 rInt) (rSlice 126 (rProd rInt (rProd rInt (rProd rInt rInt)))))) [v1] r1.2, Ch.blk g2 [.int .i64 0, .slice none 0 0, .slice none 0 0, .slice none 0 0, .slice none 0 0, .string (⟨#[]⟩)] 78, F])
  obtain rfl := Eq.symm hf
  clear haq19 hsq19 aq19 wq19
  refine seq_op0 haq20 hsq20 (opT_field_addr (g := g3) (b := 0) tf78_3 rfl rfl) rfl rfl ?_
  rintro u aq21 wq21 hf haq21 hsq21
  obtain rfl := Eq.symm hf
  clear haq20 hsq20 aq20 wq20
  refine seq_op haq21 hsq21 rfl (opT_store_blk (g := g3) (off := 5) (l := [.int .i64 r1.1, v1, v2, v3, v4, .string (⟨#[]⟩)]) (d := [.string p0a.2.2.2]) (E := 78) (u := .string p0a.2.2.2) ti9 rfl rfl rfl rfl rfl (allC rfl allN) (Nat.le_of_ble_eq_true rfl)) (perm_front (i := 1) rfl) rfl ?_
  rintro _ aq22 wq22 - haq22 (hsq22 : St I w0 wq22 [Ch.blk g3 [.int .i64 r1.1, v1, v2, v3, v4, .string p0a.2.2.2] 78, Ch.blk g1 [.int .i64 p0a.1.1, va0, va1, va2, va3, .string p0a.2.2.2] 66, Ch.own (rSlice 107 (rProd rInt (rProd rInt rInt))) [v4] r3, Ch.own (rSlice 27 (rProd rInt (rProd (rSlice 4 rBool) (rSlice 34 (rSlice 3 rInt))))) [v2] r2.1, Ch.own (rSlice 147 (rProd rInt (rProd (rSlice 197 (rProd rInt (rProd rInt (rProd rInt rInt)))) rInt))) [v3] r2.2, Ch.own (rSlice 45 (rProd (rSlice 3 rInt) (rSlice 126 (rProd rInt (rProd rInt (rProd rInt rInt)))))) [v1] r1.2, Ch.blk g2 [.int .i64 0, .slice none 0 0, .slice none 0 0, .slice none 0 0, .slice none 0 0, .string (⟨#[]⟩)] 78, F])
  clear haq21 hsq21 aq21 wq21
  refine wpList_nil ?_
  replace haq22 := haq22.pick' (L' := [(2, .pointer (some ⟨g2, 0, none⟩)), (3, .pointer (some ⟨g3, 0, none⟩))]) ⟨rfl, rfl, trivial⟩
  refine nrm ?_
  refine wp_seq ?_
  refine wp_region_lit ?_
  refine seq_op haq22 hsq22 rfl (opT_load_blk (g := g3) (off := 0) (E := 78) (l := [.int .i64 r1.1, v1, v2, v3, v4, .string p0a.2.2.2]) (d := [.int .i64 r1.1, v1, v2, v3, v4, .string p0a.2.2.2]) (u := .agg #[.int .i64 r1.1, v1, v2, v3, v4, .string p0a.2.2.2]) ti78 rfl rfl rfl rfl rfl rfl) (perm_front (i := 0) rfl) rfl ?_
  rintro u aq23 wq23 hf haq23 (hsq23 : St I w0 wq23 [Ch.blk g3 [.int .i64 r1.1, v1, v2, v3, v4, .string p0a.2.2.2] 78, Ch.blk g1 [.int .i64 p0a.1.1, va0, va1, va2, va3, .string p0a.2.2.2] 66, Ch.own (rSlice 107 (rProd rInt (rProd rInt rInt))) [v4] r3, Ch.own (rSlice 27 (rProd rInt (rProd (rSlice 4 rBool) (rSlice 34 (rSlice 3 rInt))))) [v2] r2.1, Ch.own (rSlice 147 (rProd rInt (rProd (rSlice 197 (rProd rInt (rProd rInt (rProd rInt rInt)))) rInt))) [v3] r2.2, Ch.own (rSlice 45 (rProd (rSlice 3 rInt) (rSlice 126 (rProd rInt (rProd rInt (rProd rInt rInt)))))) [v1] r1.2, Ch.blk g2 [.int .i64 0, .slice none 0 0, .slice none 0 0, .slice none 0 0, .slice none 0 0, .string (⟨#[]⟩)] 78, F])
  obtain rfl := Eq.symm hf
  clear haq22 hsq22 aq22 wq22
  refine seq_op haq23 hsq23 rfl (opT_store_blk (g := g2) (off := 0) (l := [.int .i64 0, .slice none 0 0, .slice none 0 0, .slice none 0 0, .slice none 0 0, .string (⟨#[]⟩)]) (d := [.int .i64 r1.1, v1, v2, v3, v4, .string p0a.2.2.2]) (E := 78) (u := .agg #[.int .i64 r1.1, v1, v2, v3, v4, .string p0a.2.2.2]) ti78 rfl rfl rfl rfl rfl (allC rfl (allC (Hd.one (St.hd hsq23 5 rfl).1) (allC (Hd.one (St.hd hsq23 3 rfl).1) (allC (Hd.one (St.hd hsq23 4 rfl).1) (allC (Hd.one (St.hd hsq23 2 rfl).1) (allC rfl allN)))))) (Nat.le_of_ble_eq_true rfl)) (perm_front (i := 6) rfl) rfl ?_
  rintro _ aq24 wq24 - haq24 (hsq24 : St I w0 wq24 [Ch.blk g2 [.int .i64 r1.1, v1, v2, v3, v4, .string p0a.2.2.2] 78, Ch.blk g3 [.int .i64 r1.1, v1, v2, v3, v4, .string p0a.2.2.2] 78, Ch.blk g1 [.int .i64 p0a.1.1, va0, va1, va2, va3, .string p0a.2.2.2] 66, Ch.own (rSlice 107 (rProd rInt (rProd rInt rInt))) [v4] r3, Ch.own (rSlice 27 (rProd rInt (rProd (rSlice 4 rBool) (rSlice 34 (rSlice 3 rInt))))) [v2] r2.1, Ch.own (rSlice 147 (rProd rInt (rProd (rSlice 197 (rProd rInt (rProd rInt (rProd rInt rInt)))) rInt))) [v3] r2.2, Ch.own (rSlice 45 (rProd (rSlice 3 rInt) (rSlice 126 (rProd rInt (rProd rInt (rProd rInt rInt)))))) [v1] r1.2, F])
  clear haq23 hsq23 aq23 wq23
  refine wpList_nil ?_
  replace haq24 := haq24.pick' (L' := [(2, .pointer (some ⟨g2, 0, none⟩))]) ⟨rfl, trivial⟩
  refine nrm ?_
  refine wp_ret ?_
  obtain rfl := Option.some.inj hm
  exact ret_1 haq24 rfl (res_cell (g := g2) haq24 rfl hsq24 0 rfl ti78 rfl) ⟨_, rfl, ⟨_, _, _, _, rfl⟩, _, Hp.le.rfl, St.sel (hsq24) 8 [6, 4, 5, 3, 7] rfl rfl⟩
end Go.Proofs.Ytcihbmdppgpmjaa.D
