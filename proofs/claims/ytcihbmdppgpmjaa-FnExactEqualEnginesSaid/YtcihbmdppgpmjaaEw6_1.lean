/- Printed by dec.py: models of functions and the walks that show them. -/
import Derived.Test.YtcihbmdppgpmjaaEw1_3
import Derived.Test.YtcihbmdppgpmjaaEw4_2
import Derived.Test.YtcihbmdppgpmjaaEw5_2
set_option linter.unusedVariables false
set_option linter.unusedSimpArgs false
set_option linter.unnecessarySimpa false
set_option maxRecDepth 100000
namespace Go.Proofs.Ytcihbmdppgpmjaa.D
open Go.RowKit
set_option maxHeartbeats 8000000 in
theorem c_w_eqEngine (p0a : (Int × (List ((List Int) × (List (Int × Int × Int × Int))))) × ((List (Int × (List Bool) × (List (List Int)))) × (List (Int × ((List (Int × Int × Int × Int))) × Int))) × (List (Int × Int × Int)) × ByteArray) (p1b : (Int × (List ((List Int) × (List (Int × Int × Int × Int))))) × ((List (Int × (List Bool) × (List (List Int)))) × (List (Int × ((List (Int × Int × Int × Int))) × Int))) × (List (Int × Int × Int)) × ByteArray) (r : Bool) (hm : m_w_eqEngine p0a p1b = some r) {I : Hp} {w0 : World} (va0 : Value) (va1 : Value) (va2 : Value) (va3 : Value) (va4 : Value) (va5 : Value) (va6 : Value) (va7 : Value) (ra0 : (rSlice 45 (rProd (rSlice 3 rInt) (rSlice 126 (rProd rInt (rProd rInt (rProd rInt rInt)))))).rd I [va0] p0a.1.2) (ra1 : (rSlice 27 (rProd rInt (rProd (rSlice 4 rBool) (rSlice 34 (rSlice 3 rInt))))).rd I [va1] p0a.2.1.1) (ra2 : (rSlice 147 (rProd rInt (rProd (rSlice 197 (rProd rInt (rProd rInt (rProd rInt rInt)))) rInt))).rd I [va2] p0a.2.1.2) (ra3 : (rSlice 107 (rProd rInt (rProd rInt rInt))).rd I [va3] p0a.2.2.1) (ra4 : (rSlice 45 (rProd (rSlice 3 rInt) (rSlice 126 (rProd rInt (rProd rInt (rProd rInt rInt)))))).rd I [va4] p1b.1.2) (ra5 : (rSlice 27 (rProd rInt (rProd (rSlice 4 rBool) (rSlice 34 (rSlice 3 rInt))))).rd I [va5] p1b.2.1.1) (ra6 : (rSlice 147 (rProd rInt (rProd (rSlice 197 (rProd rInt (rProd rInt (rProd rInt rInt)))) rInt))).rd I [va6] p1b.2.1.2) (ra7 : (rSlice 107 (rProd rInt (rProd rInt rInt))).rd I [va7] p1b.2.2.1) : Con Try.prog 43 #[.agg #[.int .i64 p0a.1.1, va0, va1, va2, va3, .string p0a.2.2.2], .agg #[.int .i64 p1b.1.1, va4, va5, va6, va7, .string p1b.2.2.2]] I w0 [] (fun v => v = .bool r) (fun v => []) := by
  refine con_of_wp (n := 28) [(0, .agg #[.int .i64 p0a.1.1, va0, va1, va2, va3, .string p0a.2.2.2]), (1, .agg #[.int .i64 p1b.1.1, va4, va5, va6, va7, .string p1b.2.2.2])] Try.func43 rfl rfl (Nat.le_of_ble_eq_true rfl) (args_all ⟨rfl, rfl, trivial⟩) (fun F w a ha hs => ?_) (fun v => trivial)
  unfold m_w_eqEngine at hm
  refine wp_seq ?_
  refine wp_region_lit ?_
  refine seq_op ha hs rfl (opT_box (u := .agg #[.int .i64 p0a.1.1, va0, va1, va2, va3, .string p0a.2.2.2]) (l := [.int .i64 p0a.1.1, va0, va1, va2, va3, .string p0a.2.2.2]) rfl rfl rfl) (List.Perm.refl _) rfl ?_
  rintro _ aq1 wq1 ⟨g1, rfl⟩ haq1 (hsq1 : St I w0 wq1 [Ch.blk g1 [.int .i64 p0a.1.1, va0, va1, va2, va3, .string p0a.2.2.2] 78, F])
  clear ha hs a w
  refine seq_op haq1 hsq1 rfl (opT_box (u := .agg #[.int .i64 p1b.1.1, va4, va5, va6, va7, .string p1b.2.2.2]) (l := [.int .i64 p1b.1.1, va4, va5, va6, va7, .string p1b.2.2.2]) rfl rfl rfl) (List.Perm.refl _) rfl ?_
  rintro _ aq2 wq2 ⟨g2, rfl⟩ haq2 (hsq2 : St I w0 wq2 [Ch.blk g2 [.int .i64 p1b.1.1, va4, va5, va6, va7, .string p1b.2.2.2] 78, Ch.blk g1 [.int .i64 p0a.1.1, va0, va1, va2, va3, .string p0a.2.2.2] 78, F])
  clear haq1 hsq1 aq1 wq1
  refine seq_op0 haq2 hsq2 (opT_assign (v := .bool false) rfl rfl) rfl rfl ?_
  rintro u aq3 wq3 hf haq3 hsq3
  obtain rfl := Eq.symm hf
  clear haq2 hsq2 aq2 wq2
  refine wpList_nil ?_
  replace haq3 := haq3.pick' (L' := [(2, .pointer (some ⟨g1, 0, none⟩)), (3, .pointer (some ⟨g2, 0, none⟩))]) ⟨rfl, rfl, trivial⟩
  refine nrm ?_
  refine wp_seq ?_
  refine wp_seq ?_
  refine wp_region_lit ?_
  refine seq_op0 haq3 hsq3 (opT_field_addr (g := g1) (b := 0) tf78_0 rfl rfl) rfl rfl ?_
  rintro u aq4 wq4 hf haq4 hsq4
  obtain rfl := Eq.symm hf
  clear haq3 hsq3 aq3 wq3
  refine seq_op haq4 hsq4 rfl (opT_load_blk (g := g1) (off := 0) (E := 78) (l := [.int .i64 p0a.1.1, va0, va1, va2, va3, .string p0a.2.2.2]) (d := [.int .i64 p0a.1.1, va0]) (u := .agg #[.int .i64 p0a.1.1, va0]) ti71 rfl rfl rfl rfl rfl rfl) (perm_front (i := 1) rfl) rfl ?_
  rintro u aq5 wq5 hf haq5 (hsq5 : St I w0 wq5 [Ch.blk g1 [.int .i64 p0a.1.1, va0, va1, va2, va3, .string p0a.2.2.2] 78, Ch.blk g2 [.int .i64 p1b.1.1, va4, va5, va6, va7, .string p1b.2.2.2] 78, F])
  obtain rfl := Eq.symm hf
  clear haq4 hsq4 aq4 wq4
  refine seq_op0 haq5 hsq5 (opT_field_addr (g := g2) (b := 0) tf78_0 rfl rfl) rfl rfl ?_
  rintro u aq6 wq6 hf haq6 hsq6
  obtain rfl := Eq.symm hf
  clear haq5 hsq5 aq5 wq5
  refine seq_op haq6 hsq6 rfl (opT_load_blk (g := g2) (off := 0) (E := 78) (l := [.int .i64 p1b.1.1, va4, va5, va6, va7, .string p1b.2.2.2]) (d := [.int .i64 p1b.1.1, va4]) (u := .agg #[.int .i64 p1b.1.1, va4]) ti71 rfl rfl rfl rfl rfl rfl) (perm_front (i := 1) rfl) rfl ?_
  rintro u aq7 wq7 hf haq7 (hsq7 : St I w0 wq7 [Ch.blk g2 [.int .i64 p1b.1.1, va4, va5, va6, va7, .string p1b.2.2.2] 78, Ch.blk g1 [.int .i64 p0a.1.1, va0, va1, va2, va3, .string p0a.2.2.2] 78, F])
  obtain rfl := Eq.symm hf
  clear haq6 hsq6 aq6 wq6
  obtain ⟨r1, e1, hm⟩ := bind_some hm
  refine seq_op0 haq7 hsq7 (opT_call (args := #[.agg #[.int .i64 p0a.1.1, va0], .agg #[.int .i64 p1b.1.1, va4]]) (first := #[]) (captured := #[]) en89 rfl rfl rfl (c_w_eqHistory (p0a.1.1, p0a.1.2) (p1b.1.1, p1b.1.2) _ e1 va0 va4 ra0 ra4)) rfl rfl ?_
  rintro u aq8 wq8 hf haq8 hsq8
  obtain rfl := Eq.symm hf
  clear haq7 hsq7 aq7 wq7
  refine seq_op0 haq8 hsq8 (opT_not (b := r1) rfl rfl) rfl rfl ?_
  rintro u aq9 wq9 hf haq9 hsq9
  obtain rfl := Eq.symm hf
  clear haq8 hsq8 aq8 wq8
  refine wpList_nil ?_
  replace haq9 := haq9.pick' (L' := [(2, .pointer (some ⟨g1, 0, none⟩)), (3, .pointer (some ⟨g2, 0, none⟩)), (10, .bool (!r1))]) ⟨rfl, rfl, rfl, trivial⟩
  refine nrm ?_
  rcases two (r1) with hb1 | hb1
  · replace hm := ifFe hb1 hm
    refine cnd_true (b := !r1) haq9 rfl rfl (notT hb1) ?_
    refine wp_seq ?_
    refine wp_region_lit ?_
    refine seq_op0 haq9 hsq9 (opT_assign (v := .bool false) rfl rfl) rfl rfl ?_
    rintro u aq10 wq10 hf haq10 hsq10
    obtain rfl := Eq.symm hf
    clear haq9 hsq9 aq9 wq9
    refine wpList_nil ?_
    replace haq10 := haq10.pick' (L' := [(4, .bool false)]) ⟨rfl, trivial⟩
    refine nrm ?_
    refine wp_ret ?_
    refine thenR ?_
    obtain rfl := Option.some.inj hm
    exact ret_1 haq10 rfl (res_tmp haq10 rfl) ⟨_, rfl, rfl, _, Hp.le.rfl, St.sel (hsq10) 3 [2] rfl rfl⟩
  · replace hm := ifTe hb1 hm
    refine cnd_false (b := !r1) haq9 rfl rfl (notF hb1) ?_
    refine wp_skip ?_
    refine nrm ?_
    refine wp_seq ?_
    refine wp_seq ?_
    refine wp_region_lit ?_
    refine seq_op0 haq9 hsq9 (opT_field_addr (g := g1) (b := 0) tf78_1 rfl rfl) rfl rfl ?_
    rintro u aq11 wq11 hf haq11 hsq11
    obtain rfl := Eq.symm hf
    clear haq9 hsq9 aq9 wq9
    refine seq_op haq11 hsq11 rfl (opT_load_blk (g := g1) (off := 2) (E := 78) (l := [.int .i64 p0a.1.1, va0, va1, va2, va3, .string p0a.2.2.2]) (d := [va1, va2]) (u := .agg #[va1, va2]) ti75 rfl rfl rfl rfl rfl rfl) (perm_front (i := 1) rfl) rfl ?_
    rintro u aq12 wq12 hf haq12 (hsq12 : St I w0 wq12 [Ch.blk g1 [.int .i64 p0a.1.1, va0, va1, va2, va3, .string p0a.2.2.2] 78, Ch.blk g2 [.int .i64 p1b.1.1, va4, va5, va6, va7, .string p1b.2.2.2] 78, F])
    obtain rfl := Eq.symm hf
    clear haq11 hsq11 aq11 wq11
    refine seq_op0 haq12 hsq12 (opT_field_addr (g := g2) (b := 0) tf78_1 rfl rfl) rfl rfl ?_
    rintro u aq13 wq13 hf haq13 hsq13
    obtain rfl := Eq.symm hf
    clear haq12 hsq12 aq12 wq12
    refine seq_op haq13 hsq13 rfl (opT_load_blk (g := g2) (off := 2) (E := 78) (l := [.int .i64 p1b.1.1, va4, va5, va6, va7, .string p1b.2.2.2]) (d := [va5, va6]) (u := .agg #[va5, va6]) ti75 rfl rfl rfl rfl rfl rfl) (perm_front (i := 1) rfl) rfl ?_
    rintro u aq14 wq14 hf haq14 (hsq14 : St I w0 wq14 [Ch.blk g2 [.int .i64 p1b.1.1, va4, va5, va6, va7, .string p1b.2.2.2] 78, Ch.blk g1 [.int .i64 p0a.1.1, va0, va1, va2, va3, .string p0a.2.2.2] 78, F])
    obtain rfl := Eq.symm hf
    clear haq13 hsq13 aq13 wq13
    obtain ⟨r2, e2, hm⟩ := bind_some hm
    refine seq_op0 haq14 hsq14 (opT_call (args := #[.agg #[va1, va2], .agg #[va5, va6]]) (first := #[]) (captured := #[]) en90 rfl rfl rfl (c_w_eqRegistry (p0a.2.1.1, p0a.2.1.2) (p1b.2.1.1, p1b.2.1.2) _ e2 va1 va2 va5 va6 ra1 ra2 ra5 ra6)) rfl rfl ?_
    rintro u aq15 wq15 hf haq15 hsq15
    obtain rfl := Eq.symm hf
    clear haq14 hsq14 aq14 wq14
    refine seq_op0 haq15 hsq15 (opT_not (b := r2) rfl rfl) rfl rfl ?_
    rintro u aq16 wq16 hf haq16 hsq16
    obtain rfl := Eq.symm hf
    clear haq15 hsq15 aq15 wq15
    refine wpList_nil ?_
    replace haq16 := haq16.pick' (L' := [(2, .pointer (some ⟨g1, 0, none⟩)), (3, .pointer (some ⟨g2, 0, none⟩)), (16, .bool (!r2))]) ⟨rfl, rfl, rfl, trivial⟩
    refine nrm ?_
    rcases two (r2) with hb2 | hb2
    · replace hm := ifFe hb2 hm
      refine cnd_true (b := !r2) haq16 rfl rfl (notT hb2) ?_
      refine wp_seq ?_
      refine wp_region_lit ?_
      refine seq_op0 haq16 hsq16 (opT_assign (v := .bool false) rfl rfl) rfl rfl ?_
      rintro u aq17 wq17 hf haq17 hsq17
      obtain rfl := Eq.symm hf
      clear haq16 hsq16 aq16 wq16
      refine wpList_nil ?_
      replace haq17 := haq17.pick' (L' := [(4, .bool false)]) ⟨rfl, trivial⟩
      refine nrm ?_
      refine wp_ret ?_
      refine thenR ?_
      obtain rfl := Option.some.inj hm
      exact ret_1 haq17 rfl (res_tmp haq17 rfl) ⟨_, rfl, rfl, _, Hp.le.rfl, St.sel (hsq17) 3 [2] rfl rfl⟩
    · replace hm := ifTe hb2 hm
      refine cnd_false (b := !r2) haq16 rfl rfl (notF hb2) ?_
      refine wp_skip ?_
      refine nrm ?_
      refine wp_seq ?_
      refine wp_seq ?_
      refine wp_region_lit ?_
      refine seq_op0 haq16 hsq16 (opT_field_addr (g := g1) (b := 0) tf78_2 rfl rfl) rfl rfl ?_
      rintro u aq18 wq18 hf haq18 hsq18
      obtain rfl := Eq.symm hf
      clear haq16 hsq16 aq16 wq16
      refine seq_op haq18 hsq18 rfl (opT_load_blk (g := g1) (off := 4) (E := 78) (l := [.int .i64 p0a.1.1, va0, va1, va2, va3, .string p0a.2.2.2]) (d := [va3]) (u := va3) ti76 rfl rfl rfl rfl rfl rfl) (perm_front (i := 1) rfl) rfl ?_
      rintro u aq19 wq19 hf haq19 (hsq19 : St I w0 wq19 [Ch.blk g1 [.int .i64 p0a.1.1, va0, va1, va2, va3, .string p0a.2.2.2] 78, Ch.blk g2 [.int .i64 p1b.1.1, va4, va5, va6, va7, .string p1b.2.2.2] 78, F])
      obtain rfl := Eq.symm hf
      clear haq18 hsq18 aq18 wq18
      refine seq_op0 haq19 hsq19 (opT_field_addr (g := g2) (b := 0) tf78_2 rfl rfl) rfl rfl ?_
      rintro u aq20 wq20 hf haq20 hsq20
      obtain rfl := Eq.symm hf
      clear haq19 hsq19 aq19 wq19
      refine seq_op haq20 hsq20 rfl (opT_load_blk (g := g2) (off := 4) (E := 78) (l := [.int .i64 p1b.1.1, va4, va5, va6, va7, .string p1b.2.2.2]) (d := [va7]) (u := va7) ti76 rfl rfl rfl rfl rfl rfl) (perm_front (i := 1) rfl) rfl ?_
      rintro u aq21 wq21 hf haq21 (hsq21 : St I w0 wq21 [Ch.blk g2 [.int .i64 p1b.1.1, va4, va5, va6, va7, .string p1b.2.2.2] 78, Ch.blk g1 [.int .i64 p0a.1.1, va0, va1, va2, va3, .string p0a.2.2.2] 78, F])
      obtain rfl := Eq.symm hf
      clear haq20 hsq20 aq20 wq20
      obtain ⟨r3, e3, hm⟩ := bind_some hm
      refine seq_op0 haq21 hsq21 (opT_call (args := #[va3, va7]) (first := #[]) (captured := #[]) en91 rfl rfl rfl (c_w_eqSubscriberS p0a.2.2.1 p1b.2.2.1 _ e3 va3 va7 ra3 ra7)) rfl rfl ?_
      rintro u aq22 wq22 hf haq22 hsq22
      obtain rfl := Eq.symm hf
      clear haq21 hsq21 aq21 wq21
      refine seq_op0 haq22 hsq22 (opT_not (b := r3) rfl rfl) rfl rfl ?_
      rintro u aq23 wq23 hf haq23 hsq23
      obtain rfl := Eq.symm hf
      clear haq22 hsq22 aq22 wq22
      refine wpList_nil ?_
      replace haq23 := haq23.pick' (L' := [(2, .pointer (some ⟨g1, 0, none⟩)), (3, .pointer (some ⟨g2, 0, none⟩)), (22, .bool (!r3))]) ⟨rfl, rfl, rfl, trivial⟩
      refine nrm ?_
      rcases two (r3) with hb3 | hb3
      · replace hm := ifFe hb3 hm
        refine cnd_true (b := !r3) haq23 rfl rfl (notT hb3) ?_
        refine wp_seq ?_
        refine wp_region_lit ?_
        refine seq_op0 haq23 hsq23 (opT_assign (v := .bool false) rfl rfl) rfl rfl ?_
        rintro u aq24 wq24 hf haq24 hsq24
        obtain rfl := Eq.symm hf
        clear haq23 hsq23 aq23 wq23
        refine wpList_nil ?_
        replace haq24 := haq24.pick' (L' := [(4, .bool false)]) ⟨rfl, trivial⟩
        refine nrm ?_
        refine wp_ret ?_
        refine thenR ?_
        obtain rfl := Option.some.inj hm
        exact ret_1 haq24 rfl (res_tmp haq24 rfl) ⟨_, rfl, rfl, _, Hp.le.rfl, St.sel (hsq24) 3 [2] rfl rfl⟩
      · replace hm := ifTe hb3 hm
        refine cnd_false (b := !r3) haq23 rfl rfl (notF hb3) ?_
        refine wp_skip ?_
        refine nrm ?_
        refine wp_seq ?_
        refine wp_seq ?_
        refine wp_region_lit ?_
        refine seq_op0 haq23 hsq23 (opT_field_addr (g := g1) (b := 0) tf78_3 rfl rfl) rfl rfl ?_
        rintro u aq25 wq25 hf haq25 hsq25
        obtain rfl := Eq.symm hf
        clear haq23 hsq23 aq23 wq23
        refine seq_op haq25 hsq25 rfl (opT_load_blk (g := g1) (off := 5) (E := 78) (l := [.int .i64 p0a.1.1, va0, va1, va2, va3, .string p0a.2.2.2]) (d := [.string p0a.2.2.2]) (u := .string p0a.2.2.2) ti9 rfl rfl rfl rfl rfl rfl) (perm_front (i := 1) rfl) rfl ?_
        rintro u aq26 wq26 hf haq26 (hsq26 : St I w0 wq26 [Ch.blk g1 [.int .i64 p0a.1.1, va0, va1, va2, va3, .string p0a.2.2.2] 78, Ch.blk g2 [.int .i64 p1b.1.1, va4, va5, va6, va7, .string p1b.2.2.2] 78, F])
        obtain rfl := Eq.symm hf
        clear haq25 hsq25 aq25 wq25
        refine seq_op0 haq26 hsq26 (opT_field_addr (g := g2) (b := 0) tf78_3 rfl rfl) rfl rfl ?_
        rintro u aq27 wq27 hf haq27 hsq27
        obtain rfl := Eq.symm hf
        clear haq26 hsq26 aq26 wq26
        refine seq_op haq27 hsq27 rfl (opT_load_blk (g := g2) (off := 5) (E := 78) (l := [.int .i64 p1b.1.1, va4, va5, va6, va7, .string p1b.2.2.2]) (d := [.string p1b.2.2.2]) (u := .string p1b.2.2.2) ti9 rfl rfl rfl rfl rfl rfl) (perm_front (i := 1) rfl) rfl ?_
        rintro u aq28 wq28 hf haq28 (hsq28 : St I w0 wq28 [Ch.blk g2 [.int .i64 p1b.1.1, va4, va5, va6, va7, .string p1b.2.2.2] 78, Ch.blk g1 [.int .i64 p0a.1.1, va0, va1, va2, va3, .string p0a.2.2.2] 78, F])
        obtain rfl := Eq.symm hf
        clear haq27 hsq27 aq27 wq27
        refine seq_op0 haq28 hsq28 (opT_nes (a := p0a.2.2.2) (b := p1b.2.2.2) rfl rfl rfl) rfl rfl ?_
        rintro u aq29 wq29 hf haq29 hsq29
        obtain rfl := Eq.symm hf
        clear haq28 hsq28 aq28 wq28
        refine wpList_nil ?_
        replace haq29 := haq29.pick' (L' := [(27, .bool (p0a.2.2.2 != p1b.2.2.2))]) ⟨rfl, trivial⟩
        refine nrm ?_
        rcases two (p0a.2.2.2 != p1b.2.2.2) with hb4 | hb4
        · replace hm := ifFe hb4 hm
          refine cnd_false (b := p0a.2.2.2 != p1b.2.2.2) haq29 rfl rfl hb4 ?_
          refine wp_skip ?_
          refine nrm ?_
          refine wp_seq ?_
          refine wp_region_lit ?_
          refine seq_op0 haq29 hsq29 (opT_assign (v := .bool true) rfl rfl) rfl rfl ?_
          rintro u aq30 wq30 hf haq30 hsq30
          obtain rfl := Eq.symm hf
          clear haq29 hsq29 aq29 wq29
          refine wpList_nil ?_
          replace haq30 := haq30.pick' (L' := [(4, .bool true)]) ⟨rfl, trivial⟩
          refine nrm ?_
          refine wp_ret ?_
          obtain rfl := Option.some.inj hm
          exact ret_1 haq30 rfl (res_tmp haq30 rfl) ⟨_, rfl, rfl, _, Hp.le.rfl, St.sel (hsq30) 3 [2] rfl rfl⟩
        · replace hm := ifTe hb4 hm
          refine cnd_true (b := p0a.2.2.2 != p1b.2.2.2) haq29 rfl rfl hb4 ?_
          refine wp_seq ?_
          refine wp_region_lit ?_
          refine seq_op0 haq29 hsq29 (opT_assign (v := .bool false) rfl rfl) rfl rfl ?_
          rintro u aq31 wq31 hf haq31 hsq31
          obtain rfl := Eq.symm hf
          clear haq29 hsq29 aq29 wq29
          refine wpList_nil ?_
          replace haq31 := haq31.pick' (L' := [(4, .bool false)]) ⟨rfl, trivial⟩
          refine nrm ?_
          refine wp_ret ?_
          refine thenR ?_
          obtain rfl := Option.some.inj hm
          exact ret_1 haq31 rfl (res_tmp haq31 rfl) ⟨_, rfl, rfl, _, Hp.le.rfl, St.sel (hsq31) 3 [2] rfl rfl⟩
end Go.Proofs.Ytcihbmdppgpmjaa.D
