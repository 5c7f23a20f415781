/- Printed by dec.py: models of functions and the walks that show them. -/
import Derived.Test.YtcihbmdppgpmjaaEw2_0
import Derived.Test.YtcihbmdppgpmjaaEw2_1
set_option linter.unusedVariables false
set_option linter.unusedSimpArgs false
set_option linter.unnecessarySimpa false
set_option maxRecDepth 100000
namespace Go.Proofs.Ytcihbmdppgpmjaa.D
open Go.RowKit
set_option maxHeartbeats 8000000 in
theorem c_s_EqualEngines (p0a : (Int × (List ((List Int) × (List (Int × Int × Int × Int))))) × ((List (Int × (List Bool) × (List (List Int)))) × (List (Int × ((List (Int × Int × Int × Int))) × Int))) × (List (Int × Int × Int)) × ByteArray) (p1b : (Int × (List ((List Int) × (List (Int × Int × Int × Int))))) × ((List (Int × (List Bool) × (List (List Int)))) × (List (Int × ((List (Int × Int × Int × Int))) × Int))) × (List (Int × Int × Int)) × ByteArray) (r : Bool) (hm : m_s_EqualEngines p0a p1b = some r) {I : Hp} {w0 : World} (va0 : Value) (va1 : Value) (va2 : Value) (va3 : Value) (va4 : Value) (va5 : Value) (va6 : Value) (va7 : Value) (ra0 : (rSlice 45 (rProd (rSlice 3 rInt) (rSlice 126 (rProd rInt (rProd rInt (rProd rInt rInt)))))).rd I [va0] p0a.1.2) (ra1 : (rSlice 27 (rProd rInt (rProd (rSlice 4 rBool) (rSlice 34 (rSlice 3 rInt))))).rd I [va1] p0a.2.1.1) (ra2 : (rSlice 147 (rProd rInt (rProd (rSlice 197 (rProd rInt (rProd rInt (rProd rInt rInt)))) rInt))).rd I [va2] p0a.2.1.2) (ra3 : (rSlice 107 (rProd rInt (rProd rInt rInt))).rd I [va3] p0a.2.2.1) (ra4 : (rSlice 45 (rProd (rSlice 3 rInt) (rSlice 126 (rProd rInt (rProd rInt (rProd rInt rInt)))))).rd I [va4] p1b.1.2) (ra5 : (rSlice 27 (rProd rInt (rProd (rSlice 4 rBool) (rSlice 34 (rSlice 3 rInt))))).rd I [va5] p1b.2.1.1) (ra6 : (rSlice 147 (rProd rInt (rProd (rSlice 197 (rProd rInt (rProd rInt (rProd rInt rInt)))) rInt))).rd I [va6] p1b.2.1.2) (ra7 : (rSlice 107 (rProd rInt (rProd rInt rInt))).rd I [va7] p1b.2.2.1) : Con Try.prog 40 #[.agg #[.int .i64 p0a.1.1, va0, va1, va2, va3, .string p0a.2.2.2], .agg #[.int .i64 p1b.1.1, va4, va5, va6, va7, .string p1b.2.2.2]] I w0 [] (fun v => v = .bool r) (fun v => []) := by
  refine con_of_wp (n := 54) [(0, .agg #[.int .i64 p0a.1.1, va0, va1, va2, va3, .string p0a.2.2.2]), (1, .agg #[.int .i64 p1b.1.1, va4, va5, va6, va7, .string p1b.2.2.2])] Try.func40 rfl rfl (Nat.le_of_ble_eq_true rfl) (args_all ⟨rfl, rfl, trivial⟩) (fun F w a ha hs => ?_) (fun v => trivial)
  unfold m_s_EqualEngines at hm
  refine wp_seq ?_
  refine wp_region_lit ?_
  refine seq_op ha hs rfl (opT_box (u := .agg #[.int .i64 p0a.1.1, va0, va1, va2, va3, .string p0a.2.2.2]) (l := [.int .i64 p0a.1.1, va0, va1, va2, va3, .string p0a.2.2.2]) rfl rfl rfl) (List.Perm.refl _) rfl ?_
  rintro _ aq1 wq1 ⟨g1, rfl⟩ haq1 (hsq1 : St I w0 wq1 [Ch.blk g1 [.int .i64 p0a.1.1, va0, va1, va2, va3, .string p0a.2.2.2] 78, F])
  clear ha hs a w
  refine seq_op haq1 hsq1 rfl (opT_box (u := .agg #[.int .i64 p1b.1.1, va4, va5, va6, va7, .string p1b.2.2.2]) (l := [.int .i64 p1b.1.1, va4, va5, va6, va7, .string p1b.2.2.2]) rfl rfl rfl) (List.Perm.refl _) rfl ?_
  rintro _ aq2 wq2 ⟨g2, rfl⟩ haq2 (hsq2 : St I w0 wq2 [Ch.blk g2 [.int .i64 p1b.1.1, va4, va5, va6, va7, .string p1b.2.2.2] 78, Ch.blk g1 [.int .i64 p0a.1.1, va0, va1, va2, va3, .string p0a.2.2.2] 78, F])
  clear haq1 hsq1 aq1 wq1
  refine seq_op0 haq2 hsq2 (opT_assign (v := .bool false) rfl rfl) rfl rfl ?_
  rintro u aq3 wq3 hf haq3 hsq3
  obtain rfl := Eq.symm hf
  clear haq2 hsq2 aq2 wq2
  refine wpList_nil ?_
  replace haq3 := haq3.pick' (L' := [(2, .pointer (some ⟨g1, 0, none⟩)), (3, .pointer (some ⟨g2, 0, none⟩))]) ⟨rfl, rfl, trivial⟩
  refine nrm ?_
  refine wp_seq ?_
  refine wp_seq ?_
  refine wp_region_lit ?_
  refine seq_op0 haq3 hsq3 (opT_field_addr (g := g1) (b := 0) tf78_0 rfl rfl) rfl rfl ?_
  rintro u aq4 wq4 hf haq4 hsq4
  obtain rfl := Eq.symm hf
  clear haq3 hsq3 aq3 wq3
  refine seq_op haq4 hsq4 rfl (opT_load_blk (g := g1) (off := 0) (E := 78) (l := [.int .i64 p0a.1.1, va0, va1, va2, va3, .string p0a.2.2.2]) (d := [.int .i64 p0a.1.1, va0]) (u := .agg #[.int .i64 p0a.1.1, va0]) ti71 rfl rfl rfl rfl rfl rfl) (perm_front (i := 1) rfl) rfl ?_
  rintro u aq5 wq5 hf haq5 (hsq5 : St I w0 wq5 [Ch.blk g1 [.int .i64 p0a.1.1, va0, va1, va2, va3, .string p0a.2.2.2] 78, Ch.blk g2 [.int .i64 p1b.1.1, va4, va5, va6, va7, .string p1b.2.2.2] 78, F])
  obtain rfl := Eq.symm hf
  clear haq4 hsq4 aq4 wq4
  refine seq_op0 haq5 hsq5 (opT_field_addr (g := g2) (b := 0) tf78_0 rfl rfl) rfl rfl ?_
  rintro u aq6 wq6 hf haq6 hsq6
  obtain rfl := Eq.symm hf
  clear haq5 hsq5 aq5 wq5
  refine seq_op haq6 hsq6 rfl (opT_load_blk (g := g2) (off := 0) (E := 78) (l := [.int .i64 p1b.1.1, va4, va5, va6, va7, .string p1b.2.2.2]) (d := [.int .i64 p1b.1.1, va4]) (u := .agg #[.int .i64 p1b.1.1, va4]) ti71 rfl rfl rfl rfl rfl rfl) (perm_front (i := 1) rfl) rfl ?_
  rintro u aq7 wq7 hf haq7 (hsq7 : St I w0 wq7 [Ch.blk g2 [.int .i64 p1b.1.1, va4, va5, va6, va7, .string p1b.2.2.2] 78, Ch.blk g1 [.int .i64 p0a.1.1, va0, va1, va2, va3, .string p0a.2.2.2] 78, F])
  obtain rfl := Eq.symm hf
  clear haq6 hsq6 aq6 wq6
  obtain ⟨r1, e1, hm⟩ := bind_some hm
  refine seq_op0 haq7 hsq7 (opT_call (args := #[.agg #[.int .i64 p0a.1.1, va0], .agg #[.int .i64 p1b.1.1, va4]]) (first := #[]) (captured := #[]) en81 rfl rfl rfl (c_s_EqualHistories (p0a.1.1, p0a.1.2) (p1b.1.1, p1b.1.2) _ e1 va0 va4 ra0 ra4)) rfl rfl ?_
  rintro u aq8 wq8 hf haq8 hsq8
  obtain rfl := Eq.symm hf
  clear haq7 hsq7 aq7 wq7
  refine seq_op0 haq8 hsq8 (opT_not (b := r1) rfl rfl) rfl rfl ?_
  rintro u aq9 wq9 hf haq9 hsq9
  obtain rfl := Eq.symm hf
  clear haq8 hsq8 aq8 wq8
  refine seq_op0 haq9 hsq9 (opT_move (v := .bool (!r1)) rfl rfl) rfl rfl ?_
  rintro u aq10 wq10 hf haq10 hsq10
  obtain rfl := Eq.symm hf
  clear haq9 hsq9 aq9 wq9
  rcases two (r1) with hb1 | hb1
  · replace hm := ifFe hb1 hm
    refine seq_skip (g := 6) (d := 12) (want := false) (b := !r1) haq10 hsq10 rfl rfl rfl (notT hb1) rfl ?_
    intro aq11 haq11
    refine seq_skip (g := 6) (d := 12) (want := false) (b := !r1) haq11 hsq10 rfl rfl rfl (notT hb1) rfl ?_
    intro aq12 haq12
    refine seq_skip (g := 6) (d := 12) (want := false) (b := !r1) haq12 hsq10 rfl rfl rfl (notT hb1) rfl ?_
    intro aq13 haq13
    refine seq_skip (g := 6) (d := 12) (want := false) (b := !r1) haq13 hsq10 rfl rfl rfl (notT hb1) rfl ?_
    intro aq14 haq14
    refine seq_skip (g := 6) (d := 12) (want := false) (b := !r1) haq14 hsq10 rfl rfl rfl (notT hb1) rfl ?_
    intro aq15 haq15
    refine seq_skip (g := 6) (d := 12) (want := false) (b := !r1) haq15 hsq10 rfl rfl rfl (notT hb1) rfl ?_
    intro aq16 haq16
    refine seq_op0 haq16 hsq10 (opT_pick (b := !r1) (v := .bool true) rfl rfl (ifT (notT hb1))) rfl rfl ?_
    rintro u aq17 wq17 hf haq17 hsq17
    obtain rfl := Eq.symm hf
    clear haq16 hsq10 aq16 wq10
    refine seq_op0 haq17 hsq17 (opT_move (v := .bool true) rfl rfl) rfl rfl ?_
    rintro u aq18 wq18 hf haq18 hsq18
    obtain rfl := Eq.symm hf
    clear haq17 hsq17 aq17 wq17
    refine seq_skip (g := 14) (d := 20) (want := false) (b := true) haq18 hsq18 rfl rfl rfl rfl rfl ?_
    intro aq19 haq19
    refine seq_skip (g := 14) (d := 20) (want := false) (b := true) haq19 hsq18 rfl rfl rfl rfl rfl ?_
    intro aq20 haq20
    refine seq_skip (g := 14) (d := 20) (want := false) (b := true) haq20 hsq18 rfl rfl rfl rfl rfl ?_
    intro aq21 haq21
    refine seq_skip (g := 14) (d := 20) (want := false) (b := true) haq21 hsq18 rfl rfl rfl rfl rfl ?_
    intro aq22 haq22
    refine seq_skip (g := 14) (d := 20) (want := false) (b := true) haq22 hsq18 rfl rfl rfl rfl rfl ?_
    intro aq23 haq23
    refine seq_skip (g := 14) (d := 20) (want := false) (b := true) haq23 hsq18 rfl rfl rfl rfl rfl ?_
    intro aq24 haq24
    refine seq_skip (g := 14) (d := 20) (want := false) (b := true) haq24 hsq18 rfl rfl rfl rfl rfl ?_
    intro aq25 haq25
    refine seq_op0 haq25 hsq18 (opT_pick (b := true) (v := .bool true) rfl rfl (ifT rfl)) rfl rfl ?_
    rintro u aq26 wq26 hf haq26 hsq26
    obtain rfl := Eq.symm hf
    clear haq25 hsq18 aq25 wq18
    refine seq_op0 haq26 hsq26 (opT_move (v := .bool true) rfl rfl) rfl rfl ?_
    rintro u aq27 wq27 hf haq27 hsq27
    obtain rfl := Eq.symm hf
    clear haq26 hsq26 aq26 wq26
    refine seq_skip (g := 23) (d := 29) (want := false) (b := true) haq27 hsq27 rfl rfl rfl rfl rfl ?_
    intro aq28 haq28
    refine seq_skip (g := 23) (d := 29) (want := false) (b := true) haq28 hsq27 rfl rfl rfl rfl rfl ?_
    intro aq29 haq29
    refine seq_skip (g := 23) (d := 29) (want := false) (b := true) haq29 hsq27 rfl rfl rfl rfl rfl ?_
    intro aq30 haq30
    refine seq_skip (g := 23) (d := 29) (want := false) (b := true) haq30 hsq27 rfl rfl rfl rfl rfl ?_
    intro aq31 haq31
    refine seq_skip (g := 23) (d := 29) (want := false) (b := true) haq31 hsq27 rfl rfl rfl rfl rfl ?_
    intro aq32 haq32
    refine seq_op0 haq32 hsq27 (opT_pick (b := true) (v := .bool true) rfl rfl (ifT rfl)) rfl rfl ?_
    rintro u aq33 wq33 hf haq33 hsq33
    obtain rfl := Eq.symm hf
    clear haq32 hsq27 aq32 wq27
    refine wpList_nil ?_
    replace haq33 := haq33.pick' (L' := [(2, .pointer (some ⟨g1, 0, none⟩)), (3, .pointer (some ⟨g2, 0, none⟩)), (35, .bool true)]) ⟨rfl, rfl, rfl, trivial⟩
    refine nrm ?_
    refine cnd_true (b := true) haq33 rfl rfl rfl ?_
    refine wp_seq ?_
    refine wp_region_lit ?_
    refine seq_op0 haq33 hsq33 (opT_assign (v := .bool false) rfl rfl) rfl rfl ?_
    rintro u aq34 wq34 hf haq34 hsq34
    obtain rfl := Eq.symm hf
    clear haq33 hsq33 aq33 wq33
    refine wpList_nil ?_
    replace haq34 := haq34.pick' (L' := [(4, .bool false)]) ⟨rfl, trivial⟩
    refine nrm ?_
    refine wp_ret ?_
    refine thenR ?_
    obtain rfl := Option.some.inj hm
    exact ret_1 haq34 rfl (res_tmp haq34 rfl) ⟨_, rfl, rfl, _, Hp.le.rfl, St.sel (hsq34) 3 [2] rfl rfl⟩
  · replace hm := ifTe hb1 hm
    refine seq_op_g0 (g := 6) (d := 12) (want := false) (b := !r1) haq10 hsq10 rfl rfl rfl (notF hb1) (opT_field_addr (g := g1) (b := 0) tf78_1 rfl rfl) rfl ?_
    rintro u aq35 wq35 hf haq35 hsq35
    obtain rfl := Eq.symm hf
    clear haq10 hsq10 aq10 wq10
    refine seq_op_g (g := 6) (d := 12) (want := false) (b := !r1) haq35 hsq35 rfl rfl rfl (notF hb1) (opT_load_blk (g := g1) (off := 2) (E := 78) (l := [.int .i64 p0a.1.1, va0, va1, va2, va3, .string p0a.2.2.2]) (d := [va1, va2]) (u := .agg #[va1, va2]) ti75 rfl rfl rfl rfl rfl rfl) (perm_front (i := 1) rfl) rfl ?_
    rintro u aq36 wq36 hf haq36 (hsq36 : St I w0 wq36 [Ch.blk g1 [.int .i64 p0a.1.1, va0, va1, va2, va3, .string p0a.2.2.2] 78, Ch.blk g2 [.int .i64 p1b.1.1, va4, va5, va6, va7, .string p1b.2.2.2] 78, F])
    obtain rfl := Eq.symm hf
    clear haq35 hsq35 aq35 wq35
    refine seq_op_g0 (g := 6) (d := 12) (want := false) (b := !r1) haq36 hsq36 rfl rfl rfl (notF hb1) (opT_field_addr (g := g2) (b := 0) tf78_1 rfl rfl) rfl ?_
    rintro u aq37 wq37 hf haq37 hsq37
    obtain rfl := Eq.symm hf
    clear haq36 hsq36 aq36 wq36
    refine seq_op_g (g := 6) (d := 12) (want := false) (b := !r1) haq37 hsq37 rfl rfl rfl (notF hb1) (opT_load_blk (g := g2) (off := 2) (E := 78) (l := [.int .i64 p1b.1.1, va4, va5, va6, va7, .string p1b.2.2.2]) (d := [va5, va6]) (u := .agg #[va5, va6]) ti75 rfl rfl rfl rfl rfl rfl) (perm_front (i := 1) rfl) rfl ?_
    rintro u aq38 wq38 hf haq38 (hsq38 : St I w0 wq38 [Ch.blk g2 [.int .i64 p1b.1.1, va4, va5, va6, va7, .string p1b.2.2.2] 78, Ch.blk g1 [.int .i64 p0a.1.1, va0, va1, va2, va3, .string p0a.2.2.2] 78, F])
    obtain rfl := Eq.symm hf
    clear haq37 hsq37 aq37 wq37
    obtain ⟨r2, e2, hm⟩ := bind_some hm
    refine seq_op_g0 (g := 6) (d := 12) (want := false) (b := !r1) haq38 hsq38 rfl rfl rfl (notF hb1) (opT_call (args := #[.agg #[va1, va2], .agg #[va5, va6]]) (first := #[]) (captured := #[]) en82 rfl rfl rfl (c_s_EqualRegistries (p0a.2.1.1, p0a.2.1.2) (p1b.2.1.1, p1b.2.1.2) _ e2 va1 va2 va5 va6 ra1 ra2 ra5 ra6)) rfl ?_
    rintro u aq39 wq39 hf haq39 hsq39
    obtain rfl := Eq.symm hf
    clear haq38 hsq38 aq38 wq38
    refine seq_op_g0 (g := 6) (d := 12) (want := false) (b := !r1) haq39 hsq39 rfl rfl rfl (notF hb1) (opT_not (b := r2) rfl rfl) rfl ?_
    rintro u aq40 wq40 hf haq40 hsq40
    obtain rfl := Eq.symm hf
    clear haq39 hsq39 aq39 wq39
    refine seq_op0 haq40 hsq40 (opT_pick (b := !r1) (v := .bool (!r2)) rfl rfl (ifF (notF hb1))) rfl rfl ?_
    rintro u aq41 wq41 hf haq41 hsq41
    obtain rfl := Eq.symm hf
    clear haq40 hsq40 aq40 wq40
    refine seq_op0 haq41 hsq41 (opT_move (v := .bool (!r2)) rfl rfl) rfl rfl ?_
    rintro u aq42 wq42 hf haq42 hsq42
    obtain rfl := Eq.symm hf
    clear haq41 hsq41 aq41 wq41
    rcases two (r2) with hb2 | hb2
    · replace hm := ifFe hb2 hm
      refine seq_skip (g := 14) (d := 20) (want := false) (b := !r2) haq42 hsq42 rfl rfl rfl (notT hb2) rfl ?_
      intro aq43 haq43
      refine seq_skip (g := 14) (d := 20) (want := false) (b := !r2) haq43 hsq42 rfl rfl rfl (notT hb2) rfl ?_
      intro aq44 haq44
      refine seq_skip (g := 14) (d := 20) (want := false) (b := !r2) haq44 hsq42 rfl rfl rfl (notT hb2) rfl ?_
      intro aq45 haq45
      refine seq_skip (g := 14) (d := 20) (want := false) (b := !r2) haq45 hsq42 rfl rfl rfl (notT hb2) rfl ?_
      intro aq46 haq46
      refine seq_skip (g := 14) (d := 20) (want := false) (b := !r2) haq46 hsq42 rfl rfl rfl (notT hb2) rfl ?_
      intro aq47 haq47
      refine seq_skip (g := 14) (d := 20) (want := false) (b := !r2) haq47 hsq42 rfl rfl rfl (notT hb2) rfl ?_
      intro aq48 haq48
      refine seq_skip (g := 14) (d := 20) (want := false) (b := !r2) haq48 hsq42 rfl rfl rfl (notT hb2) rfl ?_
      intro aq49 haq49
      refine seq_op0 haq49 hsq42 (opT_pick (b := !r2) (v := .bool true) rfl rfl (ifT (notT hb2))) rfl rfl ?_
      rintro u aq50 wq50 hf haq50 hsq50
      obtain rfl := Eq.symm hf
      clear haq49 hsq42 aq49 wq42
      refine seq_op0 haq50 hsq50 (opT_move (v := .bool true) rfl rfl) rfl rfl ?_
      rintro u aq51 wq51 hf haq51 hsq51
      obtain rfl := Eq.symm hf
      clear haq50 hsq50 aq50 wq50
      refine seq_skip (g := 23) (d := 29) (want := false) (b := true) haq51 hsq51 rfl rfl rfl rfl rfl ?_
      intro aq52 haq52
      refine seq_skip (g := 23) (d := 29) (want := false) (b := true) haq52 hsq51 rfl rfl rfl rfl rfl ?_
      intro aq53 haq53
      refine seq_skip (g := 23) (d := 29) (want := false) (b := true) haq53 hsq51 rfl rfl rfl rfl rfl ?_
      intro aq54 haq54
      refine seq_skip (g := 23) (d := 29) (want := false) (b := true) haq54 hsq51 rfl rfl rfl rfl rfl ?_
      intro aq55 haq55
      refine seq_skip (g := 23) (d := 29) (want := false) (b := true) haq55 hsq51 rfl rfl rfl rfl rfl ?_
      intro aq56 haq56
      refine seq_op0 haq56 hsq51 (opT_pick (b := true) (v := .bool true) rfl rfl (ifT rfl)) rfl rfl ?_
      rintro u aq57 wq57 hf haq57 hsq57
      obtain rfl := Eq.symm hf
      clear haq56 hsq51 aq56 wq51
      refine wpList_nil ?_
      replace haq57 := haq57.pick' (L' := [(2, .pointer (some ⟨g1, 0, none⟩)), (3, .pointer (some ⟨g2, 0, none⟩)), (35, .bool true)]) ⟨rfl, rfl, rfl, trivial⟩
      refine nrm ?_
      refine cnd_true (b := true) haq57 rfl rfl rfl ?_
      refine wp_seq ?_
      refine wp_region_lit ?_
      refine seq_op0 haq57 hsq57 (opT_assign (v := .bool false) rfl rfl) rfl rfl ?_
      rintro u aq58 wq58 hf haq58 hsq58
      obtain rfl := Eq.symm hf
      clear haq57 hsq57 aq57 wq57
      refine wpList_nil ?_
      replace haq58 := haq58.pick' (L' := [(4, .bool false)]) ⟨rfl, trivial⟩
      refine nrm ?_
      refine wp_ret ?_
      refine thenR ?_
      obtain rfl := Option.some.inj hm
      exact ret_1 haq58 rfl (res_tmp haq58 rfl) ⟨_, rfl, rfl, _, Hp.le.rfl, St.sel (hsq58) 3 [2] rfl rfl⟩
    · replace hm := ifTe hb2 hm
      refine seq_op_g0 (g := 14) (d := 20) (want := false) (b := !r2) haq42 hsq42 rfl rfl rfl (notF hb2) (opT_field_addr (g := g1) (b := 0) tf78_2 rfl rfl) rfl ?_
      rintro u aq59 wq59 hf haq59 hsq59
      obtain rfl := Eq.symm hf
      clear haq42 hsq42 aq42 wq42
      refine seq_op_g (g := 14) (d := 20) (want := false) (b := !r2) haq59 hsq59 rfl rfl rfl (notF hb2) (opT_load_blk (g := g1) (off := 4) (E := 78) (l := [.int .i64 p0a.1.1, va0, va1, va2, va3, .string p0a.2.2.2]) (d := [va3]) (u := va3) ti76 rfl rfl rfl rfl rfl rfl) (perm_front (i := 1) rfl) rfl ?_
      rintro u aq60 wq60 hf haq60 (hsq60 : St I w0 wq60 [Ch.blk g1 [.int .i64 p0a.1.1, va0, va1, va2, va3, .string p0a.2.2.2] 78, Ch.blk g2 [.int .i64 p1b.1.1, va4, va5, va6, va7, .string p1b.2.2.2] 78, F])
      obtain rfl := Eq.symm hf
      clear haq59 hsq59 aq59 wq59
      refine seq_op_g0 (g := 14) (d := 20) (want := false) (b := !r2) haq60 hsq60 rfl rfl rfl (notF hb2) (opT_len_hd (v := va3) (n := p0a.2.2.1.length) (Hd.of_rd ra3) Try.underlying76 rfl rfl) rfl ?_
      rintro u aq61 wq61 hf haq61 hsq61
      obtain rfl := Eq.symm hf
      clear haq60 hsq60 aq60 wq60
      refine seq_op_g0 (g := 14) (d := 20) (want := false) (b := !r2) haq61 hsq61 rfl rfl rfl (notF hb2) (opT_field_addr (g := g2) (b := 0) tf78_2 rfl rfl) rfl ?_
      rintro u aq62 wq62 hf haq62 hsq62
      obtain rfl := Eq.symm hf
      clear haq61 hsq61 aq61 wq61
      refine seq_op_g (g := 14) (d := 20) (want := false) (b := !r2) haq62 hsq62 rfl rfl rfl (notF hb2) (opT_load_blk (g := g2) (off := 4) (E := 78) (l := [.int .i64 p1b.1.1, va4, va5, va6, va7, .string p1b.2.2.2]) (d := [va7]) (u := va7) ti76 rfl rfl rfl rfl rfl rfl) (perm_front (i := 1) rfl) rfl ?_
      rintro u aq63 wq63 hf haq63 (hsq63 : St I w0 wq63 [Ch.blk g2 [.int .i64 p1b.1.1, va4, va5, va6, va7, .string p1b.2.2.2] 78, Ch.blk g1 [.int .i64 p0a.1.1, va0, va1, va2, va3, .string p0a.2.2.2] 78, F])
      obtain rfl := Eq.symm hf
      clear haq62 hsq62 aq62 wq62
      refine seq_op_g0 (g := 14) (d := 20) (want := false) (b := !r2) haq63 hsq63 rfl rfl rfl (notF hb2) (opT_len_hd (v := va7) (n := p1b.2.2.1.length) (Hd.of_rd ra7) Try.underlying76 rfl rfl) rfl ?_
      rintro u aq64 wq64 hf haq64 hsq64
      obtain rfl := Eq.symm hf
      clear haq63 hsq63 aq63 wq63
      refine seq_op_g0 (g := 14) (d := 20) (want := false) (b := !r2) haq64 hsq64 rfl rfl rfl (notF hb2) (opT_cmp (k := .i64) (m := (p0a.2.2.1.length : Int)) (n := (p1b.2.2.1.length : Int)) (c := (p0a.2.2.1.length : Int) != (p1b.2.2.1.length : Int)) rfl rfl rfl rfl rfl) rfl ?_
      rintro u aq65 wq65 hf haq65 hsq65
      obtain rfl := Eq.symm hf
      clear haq64 hsq64 aq64 wq64
      refine seq_op0 haq65 hsq65 (opT_pick (b := !r2) (v := .bool ((p0a.2.2.1.length : Int) != (p1b.2.2.1.length : Int))) rfl rfl (ifF (notF hb2))) rfl rfl ?_
      rintro u aq66 wq66 hf haq66 hsq66
      obtain rfl := Eq.symm hf
      clear haq65 hsq65 aq65 wq65
      refine seq_op0 haq66 hsq66 (opT_move (v := .bool ((p0a.2.2.1.length : Int) != (p1b.2.2.1.length : Int))) rfl rfl) rfl rfl ?_
      rintro u aq67 wq67 hf haq67 hsq67
      obtain rfl := Eq.symm hf
      clear haq66 hsq66 aq66 wq66
      rcases two ((p0a.2.2.1.length : Int) != (p1b.2.2.1.length : Int)) with hb3 | hb3
      · replace hm := ifFe hb3 hm
        refine seq_op_g0 (g := 23) (d := 29) (want := false) (b := (p0a.2.2.1.length : Int) != (p1b.2.2.1.length : Int)) haq67 hsq67 rfl rfl rfl hb3 (opT_field_addr (g := g1) (b := 0) tf78_3 rfl rfl) rfl ?_
        rintro u aq68 wq68 hf haq68 hsq68
        obtain rfl := Eq.symm hf
        clear haq67 hsq67 aq67 wq67
        refine seq_op_g (g := 23) (d := 29) (want := false) (b := (p0a.2.2.1.length : Int) != (p1b.2.2.1.length : Int)) haq68 hsq68 rfl rfl rfl hb3 (opT_load_blk (g := g1) (off := 5) (E := 78) (l := [.int .i64 p0a.1.1, va0, va1, va2, va3, .string p0a.2.2.2]) (d := [.string p0a.2.2.2]) (u := .string p0a.2.2.2) ti9 rfl rfl rfl rfl rfl rfl) (perm_front (i := 1) rfl) rfl ?_
        rintro u aq69 wq69 hf haq69 (hsq69 : St I w0 wq69 [Ch.blk g1 [.int .i64 p0a.1.1, va0, va1, va2, va3, .string p0a.2.2.2] 78, Ch.blk g2 [.int .i64 p1b.1.1, va4, va5, va6, va7, .string p1b.2.2.2] 78, F])
        obtain rfl := Eq.symm hf
        clear haq68 hsq68 aq68 wq68
        refine seq_op_g0 (g := 23) (d := 29) (want := false) (b := (p0a.2.2.1.length : Int) != (p1b.2.2.1.length : Int)) haq69 hsq69 rfl rfl rfl hb3 (opT_field_addr (g := g2) (b := 0) tf78_3 rfl rfl) rfl ?_
        rintro u aq70 wq70 hf haq70 hsq70
        obtain rfl := Eq.symm hf
        clear haq69 hsq69 aq69 wq69
        refine seq_op_g (g := 23) (d := 29) (want := false) (b := (p0a.2.2.1.length : Int) != (p1b.2.2.1.length : Int)) haq70 hsq70 rfl rfl rfl hb3 (opT_load_blk (g := g2) (off := 5) (E := 78) (l := [.int .i64 p1b.1.1, va4, va5, va6, va7, .string p1b.2.2.2]) (d := [.string p1b.2.2.2]) (u := .string p1b.2.2.2) ti9 rfl rfl rfl rfl rfl rfl) (perm_front (i := 1) rfl) rfl ?_
        rintro u aq71 wq71 hf haq71 (hsq71 : St I w0 wq71 [Ch.blk g2 [.int .i64 p1b.1.1, va4, va5, va6, va7, .string p1b.2.2.2] 78, Ch.blk g1 [.int .i64 p0a.1.1, va0, va1, va2, va3, .string p0a.2.2.2] 78, F])
        obtain rfl := Eq.symm hf
        clear haq70 hsq70 aq70 wq70
        refine seq_op_g0 (g := 23) (d := 29) (want := false) (b := (p0a.2.2.1.length : Int) != (p1b.2.2.1.length : Int)) haq71 hsq71 rfl rfl rfl hb3 (opT_nes (a := p0a.2.2.2) (b := p1b.2.2.2) rfl rfl rfl) rfl ?_
        rintro u aq72 wq72 hf haq72 hsq72
        obtain rfl := Eq.symm hf
        clear haq71 hsq71 aq71 wq71
        refine seq_op0 haq72 hsq72 (opT_pick (b := (p0a.2.2.1.length : Int) != (p1b.2.2.1.length : Int)) (v := .bool (p0a.2.2.2 != p1b.2.2.2)) rfl rfl (ifF hb3)) rfl rfl ?_
        rintro u aq73 wq73 hf haq73 hsq73
        obtain rfl := Eq.symm hf
        clear haq72 hsq72 aq72 wq72
        refine wpList_nil ?_
        replace haq73 := haq73.pick' (L' := [(2, .pointer (some ⟨g1, 0, none⟩)), (3, .pointer (some ⟨g2, 0, none⟩)), (35, .bool (p0a.2.2.2 != p1b.2.2.2))]) ⟨rfl, rfl, rfl, trivial⟩
        refine nrm ?_
        rcases two (p0a.2.2.2 != p1b.2.2.2) with hb4 | hb4
        · replace hm := ifFe hb4 hm
          refine cnd_false (b := p0a.2.2.2 != p1b.2.2.2) haq73 rfl rfl hb4 ?_
          refine wp_skip ?_
          refine nrm ?_
          refine wp_seq ?_
          refine wp_seq ?_
          refine wp_region_lit ?_
          refine seq_op0 haq73 hsq73 (opT_assign (v := .int .i64 0) rfl rfl) rfl rfl ?_
          rintro u aq74 wq74 hf haq74 hsq74
          obtain rfl := Eq.symm hf
          clear haq73 hsq73 aq73 wq73
          refine wpList_nil ?_
          replace haq74 := haq74.pick' (L' := [(2, .pointer (some ⟨g1, 0, none⟩)), (3, .pointer (some ⟨g2, 0, none⟩)), (5, .int .i64 0)]) ⟨rfl, rfl, rfl, trivial⟩
          refine nrm ?_
          obtain ⟨o1, hl1, hc1⟩ := bindL_some hm
          refine wp_cut (fun a w => ∃ s4 : Int, o1 = .brk s4 ∧ Agr 54 a [] ∧ St I w0 w [F]) ?_ ?_
          · refine wp_block (wp_loopM (R := Bool) (S := Int) (fun s3 a w => Agr 54 a [(2, .pointer (some ⟨g1, 0, none⟩)), (3, .pointer (some ⟨g2, 0, none⟩)), (5, .int .i64 s3)] ∧ St I w0 w [Ch.blk g1 [.int .i64 p0a.1.1, va0, va1, va2, va3, .string p0a.2.2.2] 78, Ch.blk g2 [.int .i64 p1b.1.1, va4, va5, va6, va7, .string p1b.2.2.2] 78, F]) hl1 ?_ ?_)
            · exact ⟨haq74.pick' ⟨rfl, rfl, rfl, trivial⟩, St.sel hsq74 3 [1, 0, 2] rfl rfl⟩
            · rintro s3 o2 hm hf1 aq93 wq93 ⟨haq93, hsq93⟩
              unfold m_s_EqualEngines_l0 at hm
              refine wp_seq ?_
              refine wp_seq ?_
              refine wp_region_lit ?_
              refine seq_op0 haq93 hsq93 (opT_move (v := .int .i64 s3) rfl rfl) rfl rfl ?_
              rintro u aq94 wq94 hf haq94 hsq94
              obtain rfl := Eq.symm hf
              clear haq93 hsq93 aq93 wq93
              refine seq_op0 haq94 hsq94 (opT_field_addr (g := g1) (b := 0) tf78_2 rfl rfl) rfl rfl ?_
              rintro u aq95 wq95 hf haq95 hsq95
              obtain rfl := Eq.symm hf
              clear haq94 hsq94 aq94 wq94
              refine seq_op haq95 hsq95 rfl (opT_load_blk (g := g1) (off := 4) (E := 78) (l := [.int .i64 p0a.1.1, va0, va1, va2, va3, .string p0a.2.2.2]) (d := [va3]) (u := va3) ti76 rfl rfl rfl rfl rfl rfl) (perm_front (i := 0) rfl) rfl ?_
              rintro u aq96 wq96 hf haq96 (hsq96 : St I w0 wq96 [Ch.blk g1 [.int .i64 p0a.1.1, va0, va1, va2, va3, .string p0a.2.2.2] 78, Ch.blk g2 [.int .i64 p1b.1.1, va4, va5, va6, va7, .string p1b.2.2.2] 78, F])
              obtain rfl := Eq.symm hf
              clear haq95 hsq95 aq95 wq95
              refine seq_op0 haq96 hsq96 (opT_len_hd (v := va3) (n := p0a.2.2.1.length) (Hd.of_rd ra3) Try.underlying76 rfl rfl) rfl rfl ?_
              rintro u aq97 wq97 hf haq97 hsq97
              obtain rfl := Eq.symm hf
              clear haq96 hsq96 aq96 wq96
              refine seq_op0 haq97 hsq97 (opT_cmp (k := .i64) (m := s3) (n := (p0a.2.2.1.length : Int)) (c := decide (s3 < (p0a.2.2.1.length : Int))) rfl rfl rfl rfl rfl) rfl rfl ?_
              rintro u aq98 wq98 hf haq98 hsq98
              obtain rfl := Eq.symm hf
              clear haq97 hsq97 aq97 wq97
              refine wpList_nil ?_
              replace haq98 := haq98.pick' (L' := [(2, .pointer (some ⟨g1, 0, none⟩)), (3, .pointer (some ⟨g2, 0, none⟩)), (5, .int .i64 s3), (40, .bool (decide (s3 < (p0a.2.2.1.length : Int))))]) ⟨rfl, rfl, rfl, rfl, trivial⟩
              refine nrm ?_
              rcases two (decide (s3 < (p0a.2.2.1.length : Int))) with hb9 | hb9
              · replace hm := ifFe hb9 hm
                refine cnd_false (b := decide (s3 < (p0a.2.2.1.length : Int))) haq98 rfl rfl hb9 ?_
                refine wp_exit ?_
                refine thenX ?_
                refine thenX ?_
                refine ex_in ?_
                refine nrm ?_
                exact ⟨_, loopBrk hm hf1, ⟨haq98.pick' trivial, St.sel hsq98 3 [2] rfl rfl⟩⟩
              · replace hm := ifTe hb9 hm
                refine cnd_true (b := decide (s3 < (p0a.2.2.1.length : Int))) haq98 rfl rfl hb9 ?_
                refine wp_skip ?_
                refine nrm ?_
                refine wp_seq ?_
                refine wp_block ?_
                refine wp_seq ?_
                obtain ⟨x5, e7, hm⟩ := bind_some hm
                obtain ⟨x6, e8, hm⟩ := bind_some hm
                refine wp_draw (L := [(2, .pointer (some ⟨g1, 0, none⟩)), (3, .pointer (some ⟨g2, 0, none⟩)), (5, .int .i64 s3), (40, .bool (decide (s3 < (p0a.2.2.1.length : Int))))]) (C := [F]) { ops := [⟨[], [], [], [0], fun | [xo0] => xo0 = .pointer (some ⟨g1, 4, none⟩) | _ => True, [(2, none)]⟩, ⟨[0], [], [], [1], fun | [xo1] => xo1 = va3 | _ => True, [(43, some 0)]⟩, ⟨[], [], [], [2], fun | [xo2] => xo2 = .int .i64 s3 | _ => True, [(5, none)]⟩, ⟨[], [], [], [3], fun | [xo3] => xo3 = pt va3 (s3.toNat * 3) | _ => True, [(44, some 1), (45, some 2)]⟩, ⟨[], [], [], [4], fun | [xo4] => xo4 = .agg #[.int .i64 x5.1, .int .i64 x5.2.1, .int .i64 x5.2.2] | _ => True, [(46, some 3)]⟩, ⟨[], [], [], [5], fun | [xo5] => xo5 = .pointer (some ⟨g2, 4, none⟩) | _ => True, [(3, none)]⟩, ⟨[1], [], [], [6], fun | [xo6] => xo6 = va7 | _ => True, [(48, some 5)]⟩, ⟨[], [], [], [7], fun | [xo7] => xo7 = .int .i64 s3 | _ => True, [(5, none)]⟩, ⟨[], [], [], [8], fun | [xo8] => xo8 = pt va7 (s3.toNat * 3) | _ => True, [(49, some 6), (50, some 7)]⟩, ⟨[], [], [], [9], fun | [xo9] => xo9 = .agg #[.int .i64 x6.1, .int .i64 x6.2.1, .int .i64 x6.2.2] | _ => True, [(51, some 8)]⟩, ⟨[], [], [], [10], fun | [xo10] => xo10 = .bool (!((x5.1 == x6.1) && ((x5.2.1 == x6.2.1) && ((x5.2.2 == x6.2.2) && true)))) | _ => True, [(47, some 4), (52, some 9)]⟩], res := [⟨[], fun _ => Ch.blk g1 [.int .i64 p0a.1.1, va0, va1, va2, va3, .string p0a.2.2.2] 78⟩, ⟨[], fun _ => Ch.blk g2 [.int .i64 p1b.1.1, va4, va5, va6, va7, .string p1b.2.2.2] 78⟩], base := [0, 1], pre := [[], [0], [], [0, 1, 2], [0, 1, 2, 3], [], [5], [], [5, 6, 7], [5, 6, 7, 8], [0, 1, 2, 3, 4, 5, 6, 7, 8, 9]], fin := [(2, none), (3, none), (5, none), (53, some 10)], left := [0, 1] } (by kernel_rfl) haq98 hsq98 (perm_sel [0, 1, 2] (m := 3) rfl rfl) (by kernel_rfl) (by kernel_rfl) ?_ ?_
                · exact ⟨Plan.goal_run fun vs hf => ⟨wants_none rfl, OpT.conv (OpT.evs (ev' := evL [(2, .pointer (some ⟨g1, 0, none⟩))]) (opT_field_addr (g := g1) (b := 0) tf78_2 rfl rfl) rfl [.tmp 2] rfl ⟨rfl, trivial⟩) rfl (fun _ h => Eq.trans h rfl) (fun _ => rfl)⟩, Plan.goal_run fun vs hf => ⟨wants_none rfl, OpT.conv (OpT.evs (ev' := evL [(43, .pointer (some ⟨g1, 4, none⟩))]) (opT_load_blk (g := g1) (off := 4) (E := 78) (l := [.int .i64 p0a.1.1, va0, va1, va2, va3, .string p0a.2.2.2]) (d := [va3]) (u := va3) ti76 rfl rfl rfl rfl rfl rfl) rfl [.tmp 43] rfl ⟨(hf 0 (mb rfl)), trivial⟩) rfl (fun _ h => Eq.trans h rfl) (fun _ => rfl)⟩, Plan.goal_run fun vs hf => ⟨wants_none rfl, OpT.conv (OpT.evs (ev' := evL [(5, .int .i64 s3)]) (opT_move (v := .int .i64 s3) rfl rfl) rfl [.tmp 5] rfl ⟨rfl, trivial⟩) rfl (fun _ h => Eq.trans h rfl) (fun _ => rfl)⟩, Plan.goal_run fun vs hf => ⟨wants_none rfl, OpT.conv (OpT.evs (ev' := evL [(44, va3), (45, .int .i64 s3)]) (opT_index_hd (xs := p0a.2.2.1) (i := s3) (n := 3) (Hd.of_rd ra3) Try.underlying76 ti107 rfl rfl rfl (getI_in e7)) rfl [.tmp 44, .tmp 45] rfl ⟨(hf 1 (mb rfl)), (hf 2 (mb rfl)), trivial⟩) rfl (fun _ h => Eq.trans h rfl) (fun _ => rfl)⟩, Plan.goal_run fun vs hf => ⟨wants_none rfl, OpT.conv (OpT.evs (ev' := evL [(46, pt va3 (s3.toNat * 3))]) (opT_load_el (S := rProd rInt (rProd rInt rInt)) (xs := p0a.2.2.1) (a := x5) (i := s3) (k := 3) (off := 0) (f := fun (x : Int × Int × Int) => x) ra3 e7 Fld.self ti107 rfl rfl rfl rfl rfl) rfl [.tmp 46] rfl ⟨(hf 3 (mb rfl)), trivial⟩) rfl (fun u h => by obtain ⟨d, hd, h⟩ := h; obtain ⟨_, _, rfl, rfl, ⟨_, _, rfl, rfl, rfl⟩⟩ := hd; exact h) (fun _ => rfl)⟩, Plan.goal_run fun vs hf => ⟨wants_none rfl, OpT.conv (OpT.evs (ev' := evL [(3, .pointer (some ⟨g2, 0, none⟩))]) (opT_field_addr (g := g2) (b := 0) tf78_2 rfl rfl) rfl [.tmp 3] rfl ⟨rfl, trivial⟩) rfl (fun _ h => Eq.trans h rfl) (fun _ => rfl)⟩, Plan.goal_run fun vs hf => ⟨wants_none rfl, OpT.conv (OpT.evs (ev' := evL [(48, .pointer (some ⟨g2, 4, none⟩))]) (opT_load_blk (g := g2) (off := 4) (E := 78) (l := [.int .i64 p1b.1.1, va4, va5, va6, va7, .string p1b.2.2.2]) (d := [va7]) (u := va7) ti76 rfl rfl rfl rfl rfl rfl) rfl [.tmp 48] rfl ⟨(hf 5 (mb rfl)), trivial⟩) rfl (fun _ h => Eq.trans h rfl) (fun _ => rfl)⟩, Plan.goal_run fun vs hf => ⟨wants_none rfl, OpT.conv (OpT.evs (ev' := evL [(5, .int .i64 s3)]) (opT_move (v := .int .i64 s3) rfl rfl) rfl [.tmp 5] rfl ⟨rfl, trivial⟩) rfl (fun _ h => Eq.trans h rfl) (fun _ => rfl)⟩, Plan.goal_run fun vs hf => ⟨wants_none rfl, OpT.conv (OpT.evs (ev' := evL [(49, va7), (50, .int .i64 s3)]) (opT_index_hd (xs := p1b.2.2.1) (i := s3) (n := 3) (Hd.of_rd ra7) Try.underlying76 ti107 rfl rfl rfl (getI_in e8)) rfl [.tmp 49, .tmp 50] rfl ⟨(hf 6 (mb rfl)), (hf 7 (mb rfl)), trivial⟩) rfl (fun _ h => Eq.trans h rfl) (fun _ => rfl)⟩, Plan.goal_run fun vs hf => ⟨wants_none rfl, OpT.conv (OpT.evs (ev' := evL [(51, pt va7 (s3.toNat * 3))]) (opT_load_el (S := rProd rInt (rProd rInt rInt)) (xs := p1b.2.2.1) (a := x6) (i := s3) (k := 3) (off := 0) (f := fun (x : Int × Int × Int) => x) ra7 e8 Fld.self ti107 rfl rfl rfl rfl rfl) rfl [.tmp 51] rfl ⟨(hf 8 (mb rfl)), trivial⟩) rfl (fun u h => by obtain ⟨d, hd, h⟩ := h; obtain ⟨_, _, rfl, rfl, ⟨_, _, rfl, rfl, rfl⟩⟩ := hd; exact h) (fun _ => rfl)⟩, Plan.goal_run fun vs hf => ⟨wants_none rfl, OpT.conv (OpT.evs (ev' := evL [(47, .agg #[.int .i64 x5.1, .int .i64 x5.2.1, .int .i64 x5.2.2]), (52, .agg #[.int .i64 x6.1, .int .i64 x6.2.1, .int .i64 x6.2.2])]) (opT_nev (fun w => eqt107 x5.1 x5.2.1 x5.2.2 x6.1 x6.2.1 x6.2.2 w) rfl rfl rfl rfl) rfl [.tmp 47, .tmp 52] rfl ⟨(hf 4 (mb rfl)), (hf 9 (mb rfl)), trivial⟩) rfl (fun _ h => Eq.trans h rfl) (fun _ => rfl)⟩, trivial⟩
                intro vs aq99 wq99 hf haq99 hsq99
                clear haq98 hsq98
                replace haq99 := haq99.pick' (L' := [(2, .pointer (some ⟨g1, 0, none⟩)), (3, .pointer (some ⟨g2, 0, none⟩)), (5, .int .i64 s3), (53, .bool (!((x5.1 == x6.1) && ((x5.2.1 == x6.2.1) && ((x5.2.2 == x6.2.2) && true)))))]) ⟨rfl, rfl, rfl, (congrArg some (show _ = _ from (hf 10 (Nat.le_of_ble_eq_true rfl)))), trivial⟩
                replace hsq99 : St I w0 wq99 [Ch.blk g1 [.int .i64 p0a.1.1, va0, va1, va2, va3, .string p0a.2.2.2] 78, Ch.blk g2 [.int .i64 p1b.1.1, va4, va5, va6, va7, .string p1b.2.2.2] 78, F] := hsq99
                clear hf vs
                refine nrm ?_
                rcases two ((x5.1 == x6.1) && ((x5.2.1 == x6.2.1) && ((x5.2.2 == x6.2.2) && true))) with hb10 | hb10
                · replace hm := ifFe hb10 hm
                  refine cnd_true (b := !((x5.1 == x6.1) && ((x5.2.1 == x6.2.1) && ((x5.2.2 == x6.2.2) && true)))) haq99 rfl rfl (notT hb10) ?_
                  refine wp_seq ?_
                  refine wp_region_lit ?_
                  refine seq_op0 haq99 hsq99 (opT_assign (v := .bool false) rfl rfl) rfl rfl ?_
                  rintro u aq100 wq100 hf haq100 hsq100
                  obtain rfl := Eq.symm hf
                  clear haq99 hsq99 aq99 wq99
                  refine wpList_nil ?_
                  replace haq100 := haq100.pick' (L' := [(4, .bool false)]) ⟨rfl, trivial⟩
                  refine nrm ?_
                  refine wp_ret ?_
                  refine blkR ?_
                  refine thenR ?_
                  refine thenR ?_
                  refine blkR ?_
                  refine thenR ?_
                  refine thenR ?_
                  replace hm := loopRet hm hf1 hc1
                  obtain rfl := Option.some.inj hm
                  exact ret_1 haq100 rfl (res_tmp haq100 rfl) ⟨_, rfl, rfl, _, Hp.le.rfl, St.sel (hsq100) 3 [2] rfl rfl⟩
                · replace hm := ifTe hb10 hm
                  refine cnd_false (b := !((x5.1 == x6.1) && ((x5.2.1 == x6.2.1) && ((x5.2.2 == x6.2.2) && true)))) haq99 rfl rfl (notF hb10) ?_
                  refine wp_skip ?_
                  refine nrmB ?_
                  refine nrm ?_
                  refine wp_region_lit ?_
                  refine seq_op0 haq99 hsq99 (opT_move (v := .int .i64 s3) rfl rfl) rfl rfl ?_
                  rintro u aq101 wq101 hf haq101 hsq101
                  obtain rfl := Eq.symm hf
                  clear haq99 hsq99 aq99 wq99
                  refine seq_op0 haq101 hsq101 (opT_add (m := s3) (n := 1) rfl rfl rfl) rfl rfl ?_
                  rintro u aq102 wq102 hf haq102 hsq102
                  obtain rfl := Eq.symm hf
                  clear haq101 hsq101 aq101 wq101
                  refine seq_op0 haq102 hsq102 (opT_assign (v := .int .i64 (IntKind.i64.wrap (s3 + 1))) rfl rfl) rfl rfl ?_
                  rintro u aq103 wq103 hf haq103 hsq103
                  obtain rfl := Eq.symm hf
                  clear haq102 hsq102 aq102 wq102
                  refine wpList_nil ?_
                  replace haq103 := haq103.pick' (L' := [(2, .pointer (some ⟨g1, 0, none⟩)), (3, .pointer (some ⟨g2, 0, none⟩)), (5, .int .i64 (IntKind.i64.wrap (s3 + 1)))]) ⟨rfl, rfl, rfl, trivial⟩
                  refine nrm ?_
                  exact ⟨_, (Option.some.inj hm).symm, ⟨haq103.pick' ⟨rfl, rfl, rfl, trivial⟩, St.sel hsq103 3 [0, 1, 2] rfl rfl⟩⟩
          · rintro aq104 wq104 ⟨s4, ho1, haq104, hsq104⟩
            replace hm := loopOut ho1 hc1
            clear ho1 hc1 hl1
            refine nrm ?_
            refine wp_seq ?_
            refine wp_region_lit ?_
            refine seq_op0 haq104 hsq104 (opT_assign (v := .bool true) rfl rfl) rfl rfl ?_
            rintro u aq105 wq105 hf haq105 hsq105
            obtain rfl := Eq.symm hf
            clear haq104 hsq104 aq104 wq104
            refine wpList_nil ?_
            replace haq105 := haq105.pick' (L' := [(4, .bool true)]) ⟨rfl, trivial⟩
            refine nrm ?_
            refine wp_ret ?_
            obtain rfl := Option.some.inj hm
            exact ret_1 haq105 rfl (res_tmp haq105 rfl) ⟨_, rfl, rfl, _, Hp.le.rfl, St.sel (hsq105) 1 [0] rfl rfl⟩
        · replace hm := ifTe hb4 hm
          refine cnd_true (b := p0a.2.2.2 != p1b.2.2.2) haq73 rfl rfl hb4 ?_
          refine wp_seq ?_
          refine wp_region_lit ?_
          refine seq_op0 haq73 hsq73 (opT_assign (v := .bool false) rfl rfl) rfl rfl ?_
          rintro u aq106 wq106 hf haq106 hsq106
          obtain rfl := Eq.symm hf
          clear haq73 hsq73 aq73 wq73
          refine wpList_nil ?_
          replace haq106 := haq106.pick' (L' := [(4, .bool false)]) ⟨rfl, trivial⟩
          refine nrm ?_
          refine wp_ret ?_
          refine thenR ?_
          obtain rfl := Option.some.inj hm
          exact ret_1 haq106 rfl (res_tmp haq106 rfl) ⟨_, rfl, rfl, _, Hp.le.rfl, St.sel (hsq106) 3 [2] rfl rfl⟩
      · replace hm := ifTe hb3 hm
        refine seq_skip (g := 23) (d := 29) (want := false) (b := (p0a.2.2.1.length : Int) != (p1b.2.2.1.length : Int)) haq67 hsq67 rfl rfl rfl hb3 rfl ?_
        intro aq107 haq107
        refine seq_skip (g := 23) (d := 29) (want := false) (b := (p0a.2.2.1.length : Int) != (p1b.2.2.1.length : Int)) haq107 hsq67 rfl rfl rfl hb3 rfl ?_
        intro aq108 haq108
        refine seq_skip (g := 23) (d := 29) (want := false) (b := (p0a.2.2.1.length : Int) != (p1b.2.2.1.length : Int)) haq108 hsq67 rfl rfl rfl hb3 rfl ?_
        intro aq109 haq109
        refine seq_skip (g := 23) (d := 29) (want := false) (b := (p0a.2.2.1.length : Int) != (p1b.2.2.1.length : Int)) haq109 hsq67 rfl rfl rfl hb3 rfl ?_
        intro aq110 haq110
        refine seq_skip (g := 23) (d := 29) (want := false) (b := (p0a.2.2.1.length : Int) != (p1b.2.2.1.length : Int)) haq110 hsq67 rfl rfl rfl hb3 rfl ?_
        intro aq111 haq111
        refine seq_op0 haq111 hsq67 (opT_pick (b := (p0a.2.2.1.length : Int) != (p1b.2.2.1.length : Int)) (v := .bool true) rfl rfl (ifT hb3)) rfl rfl ?_
        rintro u aq112 wq112 hf haq112 hsq112
        obtain rfl := Eq.symm hf
        clear haq111 hsq67 aq111 wq67
        refine wpList_nil ?_
        replace haq112 := haq112.pick' (L' := [(2, .pointer (some ⟨g1, 0, none⟩)), (3, .pointer (some ⟨g2, 0, none⟩)), (35, .bool true)]) ⟨rfl, rfl, rfl, trivial⟩
        refine nrm ?_
        refine cnd_true (b := true) haq112 rfl rfl rfl ?_
        refine wp_seq ?_
        refine wp_region_lit ?_
        refine seq_op0 haq112 hsq112 (opT_assign (v := .bool false) rfl rfl) rfl rfl ?_
        rintro u aq113 wq113 hf haq113 hsq113
        obtain rfl := Eq.symm hf
        clear haq112 hsq112 aq112 wq112
        refine wpList_nil ?_
        replace haq113 := haq113.pick' (L' := [(4, .bool false)]) ⟨rfl, trivial⟩
        refine nrm ?_
        refine wp_ret ?_
        refine thenR ?_
        obtain rfl := Option.some.inj hm
        exact ret_1 haq113 rfl (res_tmp haq113 rfl) ⟨_, rfl, rfl, _, Hp.le.rfl, St.sel (hsq113) 3 [2] rfl rfl⟩
end Go.Proofs.Ytcihbmdppgpmjaa.D
