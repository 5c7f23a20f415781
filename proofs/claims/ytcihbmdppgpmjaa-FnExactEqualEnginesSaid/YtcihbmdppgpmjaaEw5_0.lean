/- Printed by dec.py: models of functions and the walks that show them. -/
import Derived.Test.YtcihbmdppgpmjaaEw0_0
import Derived.Test.YtcihbmdppgpmjaaEw3_3
import Derived.Test.YtcihbmdppgpmjaaEw4_3
set_option linter.unusedVariables false
set_option linter.unusedSimpArgs false
set_option linter.unnecessarySimpa false
set_option maxRecDepth 100000
namespace Go.Proofs.Ytcihbmdppgpmjaa.D
open Go.RowKit
set_option maxHeartbeats 8000000 in
theorem c_w_szEngine (p0a : (Int × (List ((List Int) × (List (Int × Int × Int × Int))))) × ((List (Int × (List Bool) × (List (List Int)))) × (List (Int × ((List (Int × Int × Int × Int))) × Int))) × (List (Int × Int × Int)) × ByteArray) (p1left : Int) (r : Int) (hm : m_w_szEngine p0a p1left = some r) {I : Hp} {w0 : World} (va0 : Value) (va1 : Value) (va2 : Value) (va3 : Value) (ra0 : (rSlice 37 (rProd (rSlice 3 rInt) (rSlice 128 (rProd rInt (rProd rInt (rProd rInt rInt)))))).rd I [va0] p0a.1.2) (ra1 : (rSlice 25 (rProd rInt (rProd (rSlice 4 rBool) (rSlice 34 (rSlice 3 rInt))))).rd I [va1] p0a.2.1.1) (ra2 : (rSlice 195 (rProd rInt (rProd (rSlice 222 (rProd rInt (rProd rInt (rProd rInt rInt)))) rInt))).rd I [va2] p0a.2.1.2) (ra3 : (rSlice 153 (rProd rInt (rProd rInt rInt))).rd I [va3] p0a.2.2.1) : Con Try.prog 39 #[.agg #[.int .i64 p0a.1.1, va0, va1, va2, va3, .string p0a.2.2.2], .int .i64 p1left] I w0 [] (fun v => v = .int .i64 r) (fun v => []) := by
  refine con_of_wp (n := 31) [(0, .agg #[.int .i64 p0a.1.1, va0, va1, va2, va3, .string p0a.2.2.2]), (1, .int .i64 p1left)] Try.func39 rfl rfl (Nat.le_of_ble_eq_true rfl) (args_all ⟨rfl, rfl, trivial⟩) (fun F w a ha hs => ?_) (fun v => trivial)
  unfold m_w_szEngine at hm
  refine wp_seq ?_
  refine wp_region_lit ?_
  refine seq_op ha hs rfl (opT_box (u := .agg #[.int .i64 p0a.1.1, va0, va1, va2, va3, .string p0a.2.2.2]) (l := [.int .i64 p0a.1.1, va0, va1, va2, va3, .string p0a.2.2.2]) rfl rfl rfl) (List.Perm.refl _) rfl ?_
  rintro _ aq1 wq1 ⟨g1, rfl⟩ haq1 (hsq1 : St I w0 wq1 [Ch.blk g1 [.int .i64 p0a.1.1, va0, va1, va2, va3, .string p0a.2.2.2] 66, F])
  clear ha hs a w
  refine seq_op0 haq1 hsq1 (opT_assign (v := .int .i64 0) rfl rfl) rfl rfl ?_
  rintro u aq2 wq2 hf haq2 hsq2
  obtain rfl := Eq.symm hf
  clear haq1 hsq1 aq1 wq1
  refine wpList_nil ?_
  replace haq2 := haq2.pick' (L' := [(1, .int .i64 p1left), (2, .pointer (some ⟨g1, 0, none⟩))]) ⟨rfl, rfl, trivial⟩
  refine nrm ?_
  refine wp_seq ?_
  refine wp_region_lit ?_
  refine seq_op0 haq2 hsq2 (opT_field_addr (g := g1) (b := 0) tf66_0 rfl rfl) rfl rfl ?_
  rintro u aq3 wq3 hf haq3 hsq3
  obtain rfl := Eq.symm hf
  clear haq2 hsq2 aq2 wq2
  refine seq_op haq3 hsq3 rfl (opT_load_blk (g := g1) (off := 0) (E := 66) (l := [.int .i64 p0a.1.1, va0, va1, va2, va3, .string p0a.2.2.2]) (d := [.int .i64 p0a.1.1, va0]) (u := .agg #[.int .i64 p0a.1.1, va0]) ti59 rfl rfl rfl rfl rfl rfl) (perm_front (i := 0) rfl) rfl ?_
  rintro u aq4 wq4 hf haq4 (hsq4 : St I w0 wq4 [Ch.blk g1 [.int .i64 p0a.1.1, va0, va1, va2, va3, .string p0a.2.2.2] 66, F])
  obtain rfl := Eq.symm hf
  clear haq3 hsq3 aq3 wq3
  refine seq_op0 haq4 hsq4 (opT_move (v := .int .i64 p1left) rfl rfl) rfl rfl ?_
  rintro u aq5 wq5 hf haq5 hsq5
  obtain rfl := Eq.symm hf
  clear haq4 hsq4 aq4 wq4
  obtain ⟨r1, e1, hm⟩ := bind_some hm
  refine seq_op0 haq5 hsq5 (opT_call (args := #[.agg #[.int .i64 p0a.1.1, va0], .int .i64 p1left]) (first := #[]) (captured := #[]) en78 rfl rfl rfl (c_w_szHistory (p0a.1.1, p0a.1.2) p1left _ e1 va0 ra0)) rfl rfl ?_
  rintro u aq6 wq6 hf haq6 hsq6
  obtain rfl := Eq.symm hf
  clear haq5 hsq5 aq5 wq5
  refine seq_op0 haq6 hsq6 (opT_assign (v := .int .i64 r1) rfl rfl) rfl rfl ?_
  rintro u aq7 wq7 hf haq7 hsq7
  obtain rfl := Eq.symm hf
  clear haq6 hsq6 aq6 wq6
  refine wpList_nil ?_
  replace haq7 := haq7.pick' (L' := [(1, .int .i64 r1), (2, .pointer (some ⟨g1, 0, none⟩))]) ⟨rfl, rfl, trivial⟩
  refine nrm ?_
  refine wp_seq ?_
  refine wp_seq ?_
  refine wp_region_lit ?_
  refine seq_op0 haq7 hsq7 (opT_move (v := .int .i64 r1) rfl rfl) rfl rfl ?_
  rintro u aq8 wq8 hf haq8 hsq8
  obtain rfl := Eq.symm hf
  clear haq7 hsq7 aq7 wq7
  refine seq_op0 haq8 hsq8 (opT_cmp (k := .i64) (m := r1) (n := 0) (c := decide (r1 < 0)) rfl rfl rfl rfl rfl) rfl rfl ?_
  rintro u aq9 wq9 hf haq9 hsq9
  obtain rfl := Eq.symm hf
  clear haq8 hsq8 aq8 wq8
  refine wpList_nil ?_
  replace haq9 := haq9.pick' (L' := [(1, .int .i64 r1), (2, .pointer (some ⟨g1, 0, none⟩)), (10, .bool (decide (r1 < 0)))]) ⟨rfl, rfl, rfl, trivial⟩
  refine nrm ?_
  rcases two (decide (r1 < 0)) with hb1 | hb1
  · replace hm := ifFe hb1 hm
    refine cnd_false (b := decide (r1 < 0)) haq9 rfl rfl hb1 ?_
    refine wp_skip ?_
    refine nrm ?_
    refine wp_seq ?_
    refine wp_region_lit ?_
    refine seq_op0 haq9 hsq9 (opT_field_addr (g := g1) (b := 0) tf66_1 rfl rfl) rfl rfl ?_
    rintro u aq10 wq10 hf haq10 hsq10
    obtain rfl := Eq.symm hf
    clear haq9 hsq9 aq9 wq9
    refine seq_op haq10 hsq10 rfl (opT_load_blk (g := g1) (off := 2) (E := 66) (l := [.int .i64 p0a.1.1, va0, va1, va2, va3, .string p0a.2.2.2]) (d := [va1, va2]) (u := .agg #[va1, va2]) ti63 rfl rfl rfl rfl rfl rfl) (perm_front (i := 0) rfl) rfl ?_
    rintro u aq11 wq11 hf haq11 (hsq11 : St I w0 wq11 [Ch.blk g1 [.int .i64 p0a.1.1, va0, va1, va2, va3, .string p0a.2.2.2] 66, F])
    obtain rfl := Eq.symm hf
    clear haq10 hsq10 aq10 wq10
    refine seq_op0 haq11 hsq11 (opT_move (v := .int .i64 r1) rfl rfl) rfl rfl ?_
    rintro u aq12 wq12 hf haq12 hsq12
    obtain rfl := Eq.symm hf
    clear haq11 hsq11 aq11 wq11
    obtain ⟨r2, e2, hm⟩ := bind_some hm
    refine seq_op0 haq12 hsq12 (opT_call (args := #[.agg #[va1, va2], .int .i64 r1]) (first := #[]) (captured := #[]) en79 rfl rfl rfl (c_w_szRegistry (p0a.2.1.1, p0a.2.1.2) r1 _ e2 va1 va2 ra1 ra2)) rfl rfl ?_
    rintro u aq13 wq13 hf haq13 hsq13
    obtain rfl := Eq.symm hf
    clear haq12 hsq12 aq12 wq12
    refine seq_op0 haq13 hsq13 (opT_assign (v := .int .i64 r2) rfl rfl) rfl rfl ?_
    rintro u aq14 wq14 hf haq14 hsq14
    obtain rfl := Eq.symm hf
    clear haq13 hsq13 aq13 wq13
    refine wpList_nil ?_
    replace haq14 := haq14.pick' (L' := [(1, .int .i64 r2), (2, .pointer (some ⟨g1, 0, none⟩))]) ⟨rfl, rfl, trivial⟩
    refine nrm ?_
    refine wp_seq ?_
    refine wp_seq ?_
    refine wp_region_lit ?_
    refine seq_op0 haq14 hsq14 (opT_move (v := .int .i64 r2) rfl rfl) rfl rfl ?_
    rintro u aq15 wq15 hf haq15 hsq15
    obtain rfl := Eq.symm hf
    clear haq14 hsq14 aq14 wq14
    refine seq_op0 haq15 hsq15 (opT_cmp (k := .i64) (m := r2) (n := 0) (c := decide (r2 < 0)) rfl rfl rfl rfl rfl) rfl rfl ?_
    rintro u aq16 wq16 hf haq16 hsq16
    obtain rfl := Eq.symm hf
    clear haq15 hsq15 aq15 wq15
    refine wpList_nil ?_
    replace haq16 := haq16.pick' (L' := [(1, .int .i64 r2), (2, .pointer (some ⟨g1, 0, none⟩)), (16, .bool (decide (r2 < 0)))]) ⟨rfl, rfl, rfl, trivial⟩
    refine nrm ?_
    rcases two (decide (r2 < 0)) with hb2 | hb2
    · replace hm := ifFe hb2 hm
      refine cnd_false (b := decide (r2 < 0)) haq16 rfl rfl hb2 ?_
      refine wp_skip ?_
      refine nrm ?_
      refine wp_seq ?_
      refine wp_region_lit ?_
      refine seq_op0 haq16 hsq16 (opT_field_addr (g := g1) (b := 0) tf66_2 rfl rfl) rfl rfl ?_
      rintro u aq17 wq17 hf haq17 hsq17
      obtain rfl := Eq.symm hf
      clear haq16 hsq16 aq16 wq16
      refine seq_op haq17 hsq17 rfl (opT_load_blk (g := g1) (off := 4) (E := 66) (l := [.int .i64 p0a.1.1, va0, va1, va2, va3, .string p0a.2.2.2]) (d := [va3]) (u := va3) ti64 rfl rfl rfl rfl rfl rfl) (perm_front (i := 0) rfl) rfl ?_
      rintro u aq18 wq18 hf haq18 (hsq18 : St I w0 wq18 [Ch.blk g1 [.int .i64 p0a.1.1, va0, va1, va2, va3, .string p0a.2.2.2] 66, F])
      obtain rfl := Eq.symm hf
      clear haq17 hsq17 aq17 wq17
      refine seq_op0 haq18 hsq18 (opT_move (v := .int .i64 r2) rfl rfl) rfl rfl ?_
      rintro u aq19 wq19 hf haq19 hsq19
      obtain rfl := Eq.symm hf
      clear haq18 hsq18 aq18 wq18
      obtain ⟨r3, e3, hm⟩ := bind_some hm
      refine seq_op0 haq19 hsq19 (opT_call (args := #[va3, .int .i64 r2]) (first := #[]) (captured := #[]) en80 rfl rfl rfl (c_w_szSubscriberS p0a.2.2.1 r2 _ e3 va3 ra3)) rfl rfl ?_
      rintro u aq20 wq20 hf haq20 hsq20
      obtain rfl := Eq.symm hf
      clear haq19 hsq19 aq19 wq19
      refine seq_op0 haq20 hsq20 (opT_assign (v := .int .i64 r3) rfl rfl) rfl rfl ?_
      rintro u aq21 wq21 hf haq21 hsq21
      obtain rfl := Eq.symm hf
      clear haq20 hsq20 aq20 wq20
      refine wpList_nil ?_
      replace haq21 := haq21.pick' (L' := [(1, .int .i64 r3), (2, .pointer (some ⟨g1, 0, none⟩))]) ⟨rfl, rfl, trivial⟩
      refine nrm ?_
      refine wp_seq ?_
      refine wp_seq ?_
      refine wp_region_lit ?_
      refine seq_op0 haq21 hsq21 (opT_move (v := .int .i64 r3) rfl rfl) rfl rfl ?_
      rintro u aq22 wq22 hf haq22 hsq22
      obtain rfl := Eq.symm hf
      clear haq21 hsq21 aq21 wq21
      refine seq_op0 haq22 hsq22 (opT_cmp (k := .i64) (m := r3) (n := 0) (c := decide (r3 < 0)) rfl rfl rfl rfl rfl) rfl rfl ?_
      rintro u aq23 wq23 hf haq23 hsq23
      obtain rfl := Eq.symm hf
      clear haq22 hsq22 aq22 wq22
      refine wpList_nil ?_
      replace haq23 := haq23.pick' (L' := [(1, .int .i64 r3), (2, .pointer (some ⟨g1, 0, none⟩)), (22, .bool (decide (r3 < 0)))]) ⟨rfl, rfl, rfl, trivial⟩
      refine nrm ?_
      rcases two (decide (r3 < 0)) with hb3 | hb3
      · replace hm := ifFe hb3 hm
        refine cnd_false (b := decide (r3 < 0)) haq23 rfl rfl hb3 ?_
        refine wp_skip ?_
        refine nrm ?_
        refine wp_seq ?_
        refine wp_region_lit ?_
        refine seq_op0 haq23 hsq23 (opT_move (v := .int .i64 r3) rfl rfl) rfl rfl ?_
        rintro u aq24 wq24 hf haq24 hsq24
        obtain rfl := Eq.symm hf
        clear haq23 hsq23 aq23 wq23
        refine seq_op0 haq24 hsq24 (opT_field_addr (g := g1) (b := 0) tf66_3 rfl rfl) rfl rfl ?_
        rintro u aq25 wq25 hf haq25 hsq25
        obtain rfl := Eq.symm hf
        clear haq24 hsq24 aq24 wq24
        refine seq_op haq25 hsq25 rfl (opT_load_blk (g := g1) (off := 5) (E := 66) (l := [.int .i64 p0a.1.1, va0, va1, va2, va3, .string p0a.2.2.2]) (d := [.string p0a.2.2.2]) (u := .string p0a.2.2.2) ti9 rfl rfl rfl rfl rfl rfl) (perm_front (i := 0) rfl) rfl ?_
        rintro u aq26 wq26 hf haq26 (hsq26 : St I w0 wq26 [Ch.blk g1 [.int .i64 p0a.1.1, va0, va1, va2, va3, .string p0a.2.2.2] 66, F])
        obtain rfl := Eq.symm hf
        clear haq25 hsq25 aq25 wq25
        refine seq_op0 haq26 hsq26 (opT_len_str (s := p0a.2.2.2) Try.underlying9 rfl rfl) rfl rfl ?_
        rintro u aq27 wq27 hf haq27 hsq27
        obtain rfl := Eq.symm hf
        clear haq26 hsq26 aq26 wq26
        refine seq_op0 haq27 hsq27 (opT_sub (m := r3) (n := (p0a.2.2.2.size : Int)) rfl rfl rfl) rfl rfl ?_
        rintro u aq28 wq28 hf haq28 hsq28
        obtain rfl := Eq.symm hf
        clear haq27 hsq27 aq27 wq27
        refine seq_op0 haq28 hsq28 (opT_assign (v := .int .i64 (IntKind.i64.wrap (r3 - (p0a.2.2.2.size : Int)))) rfl rfl) rfl rfl ?_
        rintro u aq29 wq29 hf haq29 hsq29
        obtain rfl := Eq.symm hf
        clear haq28 hsq28 aq28 wq28
        refine wpList_nil ?_
        replace haq29 := haq29.pick' (L' := [(1, .int .i64 (IntKind.i64.wrap (r3 - (p0a.2.2.2.size : Int))))]) ⟨rfl, trivial⟩
        refine nrm ?_
        refine wp_seq ?_
        refine wp_seq ?_
        refine wp_region_lit ?_
        refine seq_op0 haq29 hsq29 (opT_move (v := .int .i64 (IntKind.i64.wrap (r3 - (p0a.2.2.2.size : Int)))) rfl rfl) rfl rfl ?_
        rintro u aq30 wq30 hf haq30 hsq30
        obtain rfl := Eq.symm hf
        clear haq29 hsq29 aq29 wq29
        refine seq_op0 haq30 hsq30 (opT_cmp (k := .i64) (m := IntKind.i64.wrap (r3 - (p0a.2.2.2.size : Int))) (n := 0) (c := decide (IntKind.i64.wrap (r3 - (p0a.2.2.2.size : Int)) < 0)) rfl rfl rfl rfl rfl) rfl rfl ?_
        rintro u aq31 wq31 hf haq31 hsq31
        obtain rfl := Eq.symm hf
        clear haq30 hsq30 aq30 wq30
        refine wpList_nil ?_
        replace haq31 := haq31.pick' (L' := [(1, .int .i64 (IntKind.i64.wrap (r3 - (p0a.2.2.2.size : Int)))), (29, .bool (decide (IntKind.i64.wrap (r3 - (p0a.2.2.2.size : Int)) < 0)))]) ⟨rfl, rfl, trivial⟩
        refine nrm ?_
        rcases two (decide (IntKind.i64.wrap (r3 - (p0a.2.2.2.size : Int)) < 0)) with hb4 | hb4
        · replace hm := ifFe hb4 hm
          refine cnd_false (b := decide (IntKind.i64.wrap (r3 - (p0a.2.2.2.size : Int)) < 0)) haq31 rfl rfl hb4 ?_
          refine wp_skip ?_
          refine nrm ?_
          refine wp_seq ?_
          refine wp_region_lit ?_
          refine seq_op0 haq31 hsq31 (opT_move (v := .int .i64 (IntKind.i64.wrap (r3 - (p0a.2.2.2.size : Int)))) rfl rfl) rfl rfl ?_
          rintro u aq32 wq32 hf haq32 hsq32
          obtain rfl := Eq.symm hf
          clear haq31 hsq31 aq31 wq31
          refine seq_op0 haq32 hsq32 (opT_assign (v := .int .i64 (IntKind.i64.wrap (r3 - (p0a.2.2.2.size : Int)))) rfl rfl) rfl rfl ?_
          rintro u aq33 wq33 hf haq33 hsq33
          obtain rfl := Eq.symm hf
          clear haq32 hsq32 aq32 wq32
          refine wpList_nil ?_
          replace haq33 := haq33.pick' (L' := [(4, .int .i64 (IntKind.i64.wrap (r3 - (p0a.2.2.2.size : Int))))]) ⟨rfl, trivial⟩
          refine nrm ?_
          refine wp_ret ?_
          obtain rfl := Option.some.inj hm
          exact ret_1 haq33 rfl (res_tmp haq33 rfl) ⟨_, rfl, rfl, _, Hp.le.rfl, St.sel (hsq33) 2 [1] rfl rfl⟩
        · replace hm := ifTe hb4 hm
          refine cnd_true (b := decide (IntKind.i64.wrap (r3 - (p0a.2.2.2.size : Int)) < 0)) haq31 rfl rfl hb4 ?_
          refine wp_seq ?_
          refine wp_region_lit ?_
          refine seq_op0 haq31 hsq31 (opT_assign (v := .int .i64 (-1)) rfl rfl) rfl rfl ?_
          rintro u aq34 wq34 hf haq34 hsq34
          obtain rfl := Eq.symm hf
          clear haq31 hsq31 aq31 wq31
          refine wpList_nil ?_
          replace haq34 := haq34.pick' (L' := [(4, .int .i64 (-1))]) ⟨rfl, trivial⟩
          refine nrm ?_
          refine wp_ret ?_
          refine thenR ?_
          obtain rfl := Option.some.inj hm
          exact ret_1 haq34 rfl (res_tmp haq34 rfl) ⟨_, rfl, rfl, _, Hp.le.rfl, St.sel (hsq34) 2 [1] rfl rfl⟩
      · replace hm := ifTe hb3 hm
        refine cnd_true (b := decide (r3 < 0)) haq23 rfl rfl hb3 ?_
        refine wp_seq ?_
        refine wp_region_lit ?_
        refine seq_op0 haq23 hsq23 (opT_assign (v := .int .i64 (-1)) rfl rfl) rfl rfl ?_
        rintro u aq35 wq35 hf haq35 hsq35
        obtain rfl := Eq.symm hf
        clear haq23 hsq23 aq23 wq23
        refine wpList_nil ?_
        replace haq35 := haq35.pick' (L' := [(4, .int .i64 (-1))]) ⟨rfl, trivial⟩
        refine nrm ?_
        refine wp_ret ?_
        refine thenR ?_
        obtain rfl := Option.some.inj hm
        exact ret_1 haq35 rfl (res_tmp haq35 rfl) ⟨_, rfl, rfl, _, Hp.le.rfl, St.sel (hsq35) 2 [1] rfl rfl⟩
    · replace hm := ifTe hb2 hm
      refine cnd_true (b := decide (r2 < 0)) haq16 rfl rfl hb2 ?_
      refine wp_seq ?_
      refine wp_region_lit ?_
      refine seq_op0 haq16 hsq16 (opT_assign (v := .int .i64 (-1)) rfl rfl) rfl rfl ?_
      rintro u aq36 wq36 hf haq36 hsq36
      obtain rfl := Eq.symm hf
      clear haq16 hsq16 aq16 wq16
      refine wpList_nil ?_
      replace haq36 := haq36.pick' (L' := [(4, .int .i64 (-1))]) ⟨rfl, trivial⟩
      refine nrm ?_
      refine wp_ret ?_
      refine thenR ?_
      obtain rfl := Option.some.inj hm
      exact ret_1 haq36 rfl (res_tmp haq36 rfl) ⟨_, rfl, rfl, _, Hp.le.rfl, St.sel (hsq36) 2 [1] rfl rfl⟩
  · replace hm := ifTe hb1 hm
    refine cnd_true (b := decide (r1 < 0)) haq9 rfl rfl hb1 ?_
    refine wp_seq ?_
    refine wp_region_lit ?_
    refine seq_op0 haq9 hsq9 (opT_assign (v := .int .i64 (-1)) rfl rfl) rfl rfl ?_
    rintro u aq37 wq37 hf haq37 hsq37
    obtain rfl := Eq.symm hf
    clear haq9 hsq9 aq9 wq9
    refine wpList_nil ?_
    replace haq37 := haq37.pick' (L' := [(4, .int .i64 (-1))]) ⟨rfl, trivial⟩
    refine nrm ?_
    refine wp_ret ?_
    refine thenR ?_
    obtain rfl := Option.some.inj hm
    exact ret_1 haq37 rfl (res_tmp haq37 rfl) ⟨_, rfl, rfl, _, Hp.le.rfl, St.sel (hsq37) 2 [1] rfl rfl⟩
end Go.Proofs.Ytcihbmdppgpmjaa.D
