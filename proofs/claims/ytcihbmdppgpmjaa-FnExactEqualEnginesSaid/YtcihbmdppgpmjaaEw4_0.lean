/- Printed by dec.py: models of functions and the walks that show them. -/
import Derived.Test.YtcihbmdppgpmjaaEw0_1
import Derived.Test.YtcihbmdppgpmjaaEw2_2
import Derived.Test.YtcihbmdppgpmjaaEw3_3
set_option linter.unusedVariables false
set_option linter.unusedSimpArgs false
set_option linter.unnecessarySimpa false
set_option maxRecDepth 100000
namespace Go.Proofs.Ytcihbmdppgpmjaa.D
open Go.RowKit
set_option maxHeartbeats 8000000 in
theorem c_i_EqualEngines (p0a : (Int × (List ((List Int) × (List (Int × Int × Int × Int))))) × ((List (Int × (List Bool) × (List (List Int)))) × (List (Int × ((List (Int × Int × Int × Int))) × Int))) × (List (Int × Int × Int)) × ByteArray) (p1b : (Int × (List ((List Int) × (List (Int × Int × Int × Int))))) × ((List (Int × (List Bool) × (List (List Int)))) × (List (Int × ((List (Int × Int × Int × Int))) × Int))) × (List (Int × Int × Int)) × ByteArray) (r : Bool) (hm : m_i_EqualEngines p0a p1b = some r) {I : Hp} {w0 : World} (va0 : Value) (va1 : Value) (va2 : Value) (va3 : Value) (va4 : Value) (va5 : Value) (va6 : Value) (va7 : Value) (ra0 : (rSlice 45 (rProd (rSlice 3 rInt) (rSlice 126 (rProd rInt (rProd rInt (rProd rInt rInt)))))).rd I [va0] p0a.1.2) (ra1 : (rSlice 27 (rProd rInt (rProd (rSlice 4 rBool) (rSlice 34 (rSlice 3 rInt))))).rd I [va1] p0a.2.1.1) (ra2 : (rSlice 147 (rProd rInt (rProd (rSlice 197 (rProd rInt (rProd rInt (rProd rInt rInt)))) rInt))).rd I [va2] p0a.2.1.2) (ra3 : (rSlice 107 (rProd rInt (rProd rInt rInt))).rd I [va3] p0a.2.2.1) (ra4 : (rSlice 45 (rProd (rSlice 3 rInt) (rSlice 126 (rProd rInt (rProd rInt (rProd rInt rInt)))))).rd I [va4] p1b.1.2) (ra5 : (rSlice 27 (rProd rInt (rProd (rSlice 4 rBool) (rSlice 34 (rSlice 3 rInt))))).rd I [va5] p1b.2.1.1) (ra6 : (rSlice 147 (rProd rInt (rProd (rSlice 197 (rProd rInt (rProd rInt (rProd rInt rInt)))) rInt))).rd I [va6] p1b.2.1.2) (ra7 : (rSlice 107 (rProd rInt (rProd rInt rInt))).rd I [va7] p1b.2.2.1) : Con Try.prog 42 #[.agg #[.int .i64 p0a.1.1, va0, va1, va2, va3, .string p0a.2.2.2], .agg #[.int .i64 p1b.1.1, va4, va5, va6, va7, .string p1b.2.2.2]] I w0 [] (fun v => v = .bool r) (fun v => []) := by
  refine con_of_wp (n := 31) [(0, .agg #[.int .i64 p0a.1.1, va0, va1, va2, va3, .string p0a.2.2.2]), (1, .agg #[.int .i64 p1b.1.1, va4, va5, va6, va7, .string p1b.2.2.2])] Try.func42 rfl rfl (Nat.le_of_ble_eq_true rfl) (args_all ⟨rfl, rfl, trivial⟩) (fun F w a ha hs => ?_) (fun v => trivial)
  unfold m_i_EqualEngines at hm
  refine wp_seq ?_
  refine wp_region_lit ?_
  refine seq_op ha hs rfl (opT_box (u := .agg #[.int .i64 p0a.1.1, va0, va1, va2, va3, .string p0a.2.2.2]) (l := [.int .i64 p0a.1.1, va0, va1, va2, va3, .string p0a.2.2.2]) rfl rfl rfl) (List.Perm.refl _) rfl ?_
  rintro _ aq1 wq1 ⟨g1, rfl⟩ haq1 (hsq1 : St I w0 wq1 [Ch.blk g1 [.int .i64 p0a.1.1, va0, va1, va2, va3, .string p0a.2.2.2] 78, F])
  clear ha hs a w
  refine seq_op haq1 hsq1 rfl (opT_box (u := .agg #[.int .i64 p1b.1.1, va4, va5, va6, va7, .string p1b.2.2.2]) (l := [.int .i64 p1b.1.1, va4, va5, va6, va7, .string p1b.2.2.2]) rfl rfl rfl) (List.Perm.refl _) rfl ?_
  rintro _ aq2 wq2 ⟨g2, rfl⟩ haq2 (hsq2 : St I w0 wq2 [Ch.blk g2 [.int .i64 p1b.1.1, va4, va5, va6, va7, .string p1b.2.2.2] 78, Ch.blk g1 [.int .i64 p0a.1.1, va0, va1, va2, va3, .string p0a.2.2.2] 78, F])
  clear haq1 hsq1 aq1 wq1
  refine seq_op0 haq2 hsq2 (opT_assign (v := .bool false) rfl rfl) rfl rfl ?_
  rintro u aq3 wq3 hf haq3 hsq3
  obtain rfl := Eq.symm hf
  clear haq2 hsq2 aq2 wq2
  refine wpList_nil ?_
  replace haq3 := haq3.pick' (L' := [(2, .pointer (some ⟨g1, 0, none⟩)), (3, .pointer (some ⟨g2, 0, none⟩))]) ⟨rfl, rfl, trivial⟩
  refine nrm ?_
  refine wp_seq ?_
  refine wp_region_lit ?_
  refine seq_op0 haq3 hsq3 (opT_field_addr (g := g1) (b := 0) tf78_0 rfl rfl) rfl rfl ?_
  rintro u aq4 wq4 hf haq4 hsq4
  obtain rfl := Eq.symm hf
  clear haq3 hsq3 aq3 wq3
  refine seq_op haq4 hsq4 rfl (opT_load_blk (g := g1) (off := 0) (E := 78) (l := [.int .i64 p0a.1.1, va0, va1, va2, va3, .string p0a.2.2.2]) (d := [.int .i64 p0a.1.1, va0]) (u := .agg #[.int .i64 p0a.1.1, va0]) ti71 rfl rfl rfl rfl rfl rfl) (perm_front (i := 1) rfl) rfl ?_
  rintro u aq5 wq5 hf haq5 (hsq5 : St I w0 wq5 [Ch.blk g1 [.int .i64 p0a.1.1, va0, va1, va2, va3, .string p0a.2.2.2] 78, Ch.blk g2 [.int .i64 p1b.1.1, va4, va5, va6, va7, .string p1b.2.2.2] 78, F])
  obtain rfl := Eq.symm hf
  clear haq4 hsq4 aq4 wq4
  refine seq_op0 haq5 hsq5 (opT_field_addr (g := g2) (b := 0) tf78_0 rfl rfl) rfl rfl ?_
  rintro u aq6 wq6 hf haq6 hsq6
  obtain rfl := Eq.symm hf
  clear haq5 hsq5 aq5 wq5
  refine seq_op haq6 hsq6 rfl (opT_load_blk (g := g2) (off := 0) (E := 78) (l := [.int .i64 p1b.1.1, va4, va5, va6, va7, .string p1b.2.2.2]) (d := [.int .i64 p1b.1.1, va4]) (u := .agg #[.int .i64 p1b.1.1, va4]) ti71 rfl rfl rfl rfl rfl rfl) (perm_front (i := 1) rfl) rfl ?_
  rintro u aq7 wq7 hf haq7 (hsq7 : St I w0 wq7 [Ch.blk g2 [.int .i64 p1b.1.1, va4, va5, va6, va7, .string p1b.2.2.2] 78, Ch.blk g1 [.int .i64 p0a.1.1, va0, va1, va2, va3, .string p0a.2.2.2] 78, F])
  obtain rfl := Eq.symm hf
  clear haq6 hsq6 aq6 wq6
  obtain ⟨r1, e1, hm⟩ := bind_some hm
  refine seq_op0 haq7 hsq7 (opT_call (args := #[.agg #[.int .i64 p0a.1.1, va0], .agg #[.int .i64 p1b.1.1, va4]]) (first := #[]) (captured := #[]) en86 rfl rfl rfl (c_i_EqualHistories (p0a.1.1, p0a.1.2) (p1b.1.1, p1b.1.2) _ e1 va0 va4 ra0 ra4)) rfl rfl ?_
  rintro u aq8 wq8 hf haq8 hsq8
  obtain rfl := Eq.symm hf
  clear haq7 hsq7 aq7 wq7
  refine seq_op0 haq8 hsq8 (opT_move (v := .bool r1) rfl rfl) rfl rfl ?_
  rintro u aq9 wq9 hf haq9 hsq9
  obtain rfl := Eq.symm hf
  clear haq8 hsq8 aq8 wq8
  rcases two (r1) with hb1 | hb1
  · replace hm := ifFe hb1 hm
    refine seq_skip (g := 5) (d := 10) (want := true) (b := r1) haq9 hsq9 rfl rfl rfl hb1 rfl ?_
    intro aq10 haq10
    refine seq_skip (g := 5) (d := 10) (want := true) (b := r1) haq10 hsq9 rfl rfl rfl hb1 rfl ?_
    intro aq11 haq11
    refine seq_skip (g := 5) (d := 10) (want := true) (b := r1) haq11 hsq9 rfl rfl rfl hb1 rfl ?_
    intro aq12 haq12
    refine seq_skip (g := 5) (d := 10) (want := true) (b := r1) haq12 hsq9 rfl rfl rfl hb1 rfl ?_
    intro aq13 haq13
    refine seq_skip (g := 5) (d := 10) (want := true) (b := r1) haq13 hsq9 rfl rfl rfl hb1 rfl ?_
    intro aq14 haq14
    refine seq_op0 haq14 hsq9 (opT_pick (b := r1) (v := .bool false) rfl rfl (ifF hb1)) rfl rfl ?_
    rintro u aq15 wq15 hf haq15 hsq15
    obtain rfl := Eq.symm hf
    clear haq14 hsq9 aq14 wq9
    refine seq_op0 haq15 hsq15 (opT_move (v := .bool false) rfl rfl) rfl rfl ?_
    rintro u aq16 wq16 hf haq16 hsq16
    obtain rfl := Eq.symm hf
    clear haq15 hsq15 aq15 wq15
    refine seq_skip (g := 12) (d := 17) (want := true) (b := false) haq16 hsq16 rfl rfl rfl rfl rfl ?_
    intro aq17 haq17
    refine seq_skip (g := 12) (d := 17) (want := true) (b := false) haq17 hsq16 rfl rfl rfl rfl rfl ?_
    intro aq18 haq18
    refine seq_skip (g := 12) (d := 17) (want := true) (b := false) haq18 hsq16 rfl rfl rfl rfl rfl ?_
    intro aq19 haq19
    refine seq_skip (g := 12) (d := 17) (want := true) (b := false) haq19 hsq16 rfl rfl rfl rfl rfl ?_
    intro aq20 haq20
    refine seq_skip (g := 12) (d := 17) (want := true) (b := false) haq20 hsq16 rfl rfl rfl rfl rfl ?_
    intro aq21 haq21
    refine seq_op0 haq21 hsq16 (opT_pick (b := false) (v := .bool false) rfl rfl (ifF rfl)) rfl rfl ?_
    rintro u aq22 wq22 hf haq22 hsq22
    obtain rfl := Eq.symm hf
    clear haq21 hsq16 aq21 wq16
    refine seq_op0 haq22 hsq22 (opT_move (v := .bool false) rfl rfl) rfl rfl ?_
    rintro u aq23 wq23 hf haq23 hsq23
    obtain rfl := Eq.symm hf
    clear haq22 hsq22 aq22 wq22
    refine seq_skip (g := 19) (d := 24) (want := true) (b := false) haq23 hsq23 rfl rfl rfl rfl rfl ?_
    intro aq24 haq24
    refine seq_skip (g := 19) (d := 24) (want := true) (b := false) haq24 hsq23 rfl rfl rfl rfl rfl ?_
    intro aq25 haq25
    refine seq_skip (g := 19) (d := 24) (want := true) (b := false) haq25 hsq23 rfl rfl rfl rfl rfl ?_
    intro aq26 haq26
    refine seq_skip (g := 19) (d := 24) (want := true) (b := false) haq26 hsq23 rfl rfl rfl rfl rfl ?_
    intro aq27 haq27
    refine seq_skip (g := 19) (d := 24) (want := true) (b := false) haq27 hsq23 rfl rfl rfl rfl rfl ?_
    intro aq28 haq28
    refine seq_op0 haq28 hsq23 (opT_pick (b := false) (v := .bool false) rfl rfl (ifF rfl)) rfl rfl ?_
    rintro u aq29 wq29 hf haq29 hsq29
    obtain rfl := Eq.symm hf
    clear haq28 hsq23 aq28 wq23
    refine seq_op0 haq29 hsq29 (opT_assign (v := .bool false) rfl rfl) rfl rfl ?_
    rintro u aq30 wq30 hf haq30 hsq30
    obtain rfl := Eq.symm hf
    clear haq29 hsq29 aq29 wq29
    refine wpList_nil ?_
    replace haq30 := haq30.pick' (L' := [(4, .bool false)]) ⟨rfl, trivial⟩
    refine nrm ?_
    refine wp_ret ?_
    obtain rfl := Option.some.inj hm
    exact ret_1 haq30 rfl (res_tmp haq30 rfl) ⟨_, rfl, rfl, _, Hp.le.rfl, St.sel (hsq30) 3 [2] rfl rfl⟩
  · replace hm := ifTe hb1 hm
    refine seq_op_g0 (g := 5) (d := 10) (want := true) (b := r1) haq9 hsq9 rfl rfl rfl hb1 (opT_field_addr (g := g1) (b := 0) tf78_1 rfl rfl) rfl ?_
    rintro u aq31 wq31 hf haq31 hsq31
    obtain rfl := Eq.symm hf
    clear haq9 hsq9 aq9 wq9
    refine seq_op_g (g := 5) (d := 10) (want := true) (b := r1) haq31 hsq31 rfl rfl rfl hb1 (opT_load_blk (g := g1) (off := 2) (E := 78) (l := [.int .i64 p0a.1.1, va0, va1, va2, va3, .string p0a.2.2.2]) (d := [va1, va2]) (u := .agg #[va1, va2]) ti75 rfl rfl rfl rfl rfl rfl) (perm_front (i := 1) rfl) rfl ?_
    rintro u aq32 wq32 hf haq32 (hsq32 : St I w0 wq32 [Ch.blk g1 [.int .i64 p0a.1.1, va0, va1, va2, va3, .string p0a.2.2.2] 78, Ch.blk g2 [.int .i64 p1b.1.1, va4, va5, va6, va7, .string p1b.2.2.2] 78, F])
    obtain rfl := Eq.symm hf
    clear haq31 hsq31 aq31 wq31
    refine seq_op_g0 (g := 5) (d := 10) (want := true) (b := r1) haq32 hsq32 rfl rfl rfl hb1 (opT_field_addr (g := g2) (b := 0) tf78_1 rfl rfl) rfl ?_
    rintro u aq33 wq33 hf haq33 hsq33
    obtain rfl := Eq.symm hf
    clear haq32 hsq32 aq32 wq32
    refine seq_op_g (g := 5) (d := 10) (want := true) (b := r1) haq33 hsq33 rfl rfl rfl hb1 (opT_load_blk (g := g2) (off := 2) (E := 78) (l := [.int .i64 p1b.1.1, va4, va5, va6, va7, .string p1b.2.2.2]) (d := [va5, va6]) (u := .agg #[va5, va6]) ti75 rfl rfl rfl rfl rfl rfl) (perm_front (i := 1) rfl) rfl ?_
    rintro u aq34 wq34 hf haq34 (hsq34 : St I w0 wq34 [Ch.blk g2 [.int .i64 p1b.1.1, va4, va5, va6, va7, .string p1b.2.2.2] 78, Ch.blk g1 [.int .i64 p0a.1.1, va0, va1, va2, va3, .string p0a.2.2.2] 78, F])
    obtain rfl := Eq.symm hf
    clear haq33 hsq33 aq33 wq33
    obtain ⟨r2, e2, hm⟩ := bind_some hm
    refine seq_op_g0 (g := 5) (d := 10) (want := true) (b := r1) haq34 hsq34 rfl rfl rfl hb1 (opT_call (args := #[.agg #[va1, va2], .agg #[va5, va6]]) (first := #[]) (captured := #[]) en87 rfl rfl rfl (c_i_EqualRegistries (p0a.2.1.1, p0a.2.1.2) (p1b.2.1.1, p1b.2.1.2) _ e2 va1 va2 va5 va6 ra1 ra2 ra5 ra6)) rfl ?_
    rintro u aq35 wq35 hf haq35 hsq35
    obtain rfl := Eq.symm hf
    clear haq34 hsq34 aq34 wq34
    refine seq_op0 haq35 hsq35 (opT_pick (b := r1) (v := .bool r2) rfl rfl (ifT hb1)) rfl rfl ?_
    rintro u aq36 wq36 hf haq36 hsq36
    obtain rfl := Eq.symm hf
    clear haq35 hsq35 aq35 wq35
    refine seq_op0 haq36 hsq36 (opT_move (v := .bool r2) rfl rfl) rfl rfl ?_
    rintro u aq37 wq37 hf haq37 hsq37
    obtain rfl := Eq.symm hf
    clear haq36 hsq36 aq36 wq36
    rcases two (r2) with hb2 | hb2
    · replace hm := ifFe hb2 hm
      refine seq_skip (g := 12) (d := 17) (want := true) (b := r2) haq37 hsq37 rfl rfl rfl hb2 rfl ?_
      intro aq38 haq38
      refine seq_skip (g := 12) (d := 17) (want := true) (b := r2) haq38 hsq37 rfl rfl rfl hb2 rfl ?_
      intro aq39 haq39
      refine seq_skip (g := 12) (d := 17) (want := true) (b := r2) haq39 hsq37 rfl rfl rfl hb2 rfl ?_
      intro aq40 haq40
      refine seq_skip (g := 12) (d := 17) (want := true) (b := r2) haq40 hsq37 rfl rfl rfl hb2 rfl ?_
      intro aq41 haq41
      refine seq_skip (g := 12) (d := 17) (want := true) (b := r2) haq41 hsq37 rfl rfl rfl hb2 rfl ?_
      intro aq42 haq42
      refine seq_op0 haq42 hsq37 (opT_pick (b := r2) (v := .bool false) rfl rfl (ifF hb2)) rfl rfl ?_
      rintro u aq43 wq43 hf haq43 hsq43
      obtain rfl := Eq.symm hf
      clear haq42 hsq37 aq42 wq37
      refine seq_op0 haq43 hsq43 (opT_move (v := .bool false) rfl rfl) rfl rfl ?_
      rintro u aq44 wq44 hf haq44 hsq44
      obtain rfl := Eq.symm hf
      clear haq43 hsq43 aq43 wq43
      refine seq_skip (g := 19) (d := 24) (want := true) (b := false) haq44 hsq44 rfl rfl rfl rfl rfl ?_
      intro aq45 haq45
      refine seq_skip (g := 19) (d := 24) (want := true) (b := false) haq45 hsq44 rfl rfl rfl rfl rfl ?_
      intro aq46 haq46
      refine seq_skip (g := 19) (d := 24) (want := true) (b := false) haq46 hsq44 rfl rfl rfl rfl rfl ?_
      intro aq47 haq47
      refine seq_skip (g := 19) (d := 24) (want := true) (b := false) haq47 hsq44 rfl rfl rfl rfl rfl ?_
      intro aq48 haq48
      refine seq_skip (g := 19) (d := 24) (want := true) (b := false) haq48 hsq44 rfl rfl rfl rfl rfl ?_
      intro aq49 haq49
      refine seq_op0 haq49 hsq44 (opT_pick (b := false) (v := .bool false) rfl rfl (ifF rfl)) rfl rfl ?_
      rintro u aq50 wq50 hf haq50 hsq50
      obtain rfl := Eq.symm hf
      clear haq49 hsq44 aq49 wq44
      refine seq_op0 haq50 hsq50 (opT_assign (v := .bool false) rfl rfl) rfl rfl ?_
      rintro u aq51 wq51 hf haq51 hsq51
      obtain rfl := Eq.symm hf
      clear haq50 hsq50 aq50 wq50
      refine wpList_nil ?_
      replace haq51 := haq51.pick' (L' := [(4, .bool false)]) ⟨rfl, trivial⟩
      refine nrm ?_
      refine wp_ret ?_
      obtain rfl := Option.some.inj hm
      exact ret_1 haq51 rfl (res_tmp haq51 rfl) ⟨_, rfl, rfl, _, Hp.le.rfl, St.sel (hsq51) 3 [2] rfl rfl⟩
    · replace hm := ifTe hb2 hm
      refine seq_op_g0 (g := 12) (d := 17) (want := true) (b := r2) haq37 hsq37 rfl rfl rfl hb2 (opT_field_addr (g := g1) (b := 0) tf78_2 rfl rfl) rfl ?_
      rintro u aq52 wq52 hf haq52 hsq52
      obtain rfl := Eq.symm hf
      clear haq37 hsq37 aq37 wq37
      refine seq_op_g (g := 12) (d := 17) (want := true) (b := r2) haq52 hsq52 rfl rfl rfl hb2 (opT_load_blk (g := g1) (off := 4) (E := 78) (l := [.int .i64 p0a.1.1, va0, va1, va2, va3, .string p0a.2.2.2]) (d := [va3]) (u := va3) ti76 rfl rfl rfl rfl rfl rfl) (perm_front (i := 1) rfl) rfl ?_
      rintro u aq53 wq53 hf haq53 (hsq53 : St I w0 wq53 [Ch.blk g1 [.int .i64 p0a.1.1, va0, va1, va2, va3, .string p0a.2.2.2] 78, Ch.blk g2 [.int .i64 p1b.1.1, va4, va5, va6, va7, .string p1b.2.2.2] 78, F])
      obtain rfl := Eq.symm hf
      clear haq52 hsq52 aq52 wq52
      refine seq_op_g0 (g := 12) (d := 17) (want := true) (b := r2) haq53 hsq53 rfl rfl rfl hb2 (opT_field_addr (g := g2) (b := 0) tf78_2 rfl rfl) rfl ?_
      rintro u aq54 wq54 hf haq54 hsq54
      obtain rfl := Eq.symm hf
      clear haq53 hsq53 aq53 wq53
      refine seq_op_g (g := 12) (d := 17) (want := true) (b := r2) haq54 hsq54 rfl rfl rfl hb2 (opT_load_blk (g := g2) (off := 4) (E := 78) (l := [.int .i64 p1b.1.1, va4, va5, va6, va7, .string p1b.2.2.2]) (d := [va7]) (u := va7) ti76 rfl rfl rfl rfl rfl rfl) (perm_front (i := 1) rfl) rfl ?_
      rintro u aq55 wq55 hf haq55 (hsq55 : St I w0 wq55 [Ch.blk g2 [.int .i64 p1b.1.1, va4, va5, va6, va7, .string p1b.2.2.2] 78, Ch.blk g1 [.int .i64 p0a.1.1, va0, va1, va2, va3, .string p0a.2.2.2] 78, F])
      obtain rfl := Eq.symm hf
      clear haq54 hsq54 aq54 wq54
      obtain ⟨r3, e3, hm⟩ := bind_some hm
      refine seq_op_g0 (g := 12) (d := 17) (want := true) (b := r2) haq55 hsq55 rfl rfl rfl hb2 (opT_call (args := #[va3, va7]) (first := #[]) (captured := #[]) en88 rfl rfl rfl (c_g_slices_Equal_S_Subscriber_Subscriber p0a.2.2.1 p1b.2.2.1 _ e3 va3 va7 ra3 ra7)) rfl ?_
      rintro u aq56 wq56 hf haq56 hsq56
      obtain rfl := Eq.symm hf
      clear haq55 hsq55 aq55 wq55
      refine seq_op0 haq56 hsq56 (opT_pick (b := r2) (v := .bool r3) rfl rfl (ifT hb2)) rfl rfl ?_
      rintro u aq57 wq57 hf haq57 hsq57
      obtain rfl := Eq.symm hf
      clear haq56 hsq56 aq56 wq56
      refine seq_op0 haq57 hsq57 (opT_move (v := .bool r3) rfl rfl) rfl rfl ?_
      rintro u aq58 wq58 hf haq58 hsq58
      obtain rfl := Eq.symm hf
      clear haq57 hsq57 aq57 wq57
      rcases two (r3) with hb3 | hb3
      · replace hm := ifFe hb3 hm
        refine seq_skip (g := 19) (d := 24) (want := true) (b := r3) haq58 hsq58 rfl rfl rfl hb3 rfl ?_
        intro aq59 haq59
        refine seq_skip (g := 19) (d := 24) (want := true) (b := r3) haq59 hsq58 rfl rfl rfl hb3 rfl ?_
        intro aq60 haq60
        refine seq_skip (g := 19) (d := 24) (want := true) (b := r3) haq60 hsq58 rfl rfl rfl hb3 rfl ?_
        intro aq61 haq61
        refine seq_skip (g := 19) (d := 24) (want := true) (b := r3) haq61 hsq58 rfl rfl rfl hb3 rfl ?_
        intro aq62 haq62
        refine seq_skip (g := 19) (d := 24) (want := true) (b := r3) haq62 hsq58 rfl rfl rfl hb3 rfl ?_
        intro aq63 haq63
        refine seq_op0 haq63 hsq58 (opT_pick (b := r3) (v := .bool false) rfl rfl (ifF hb3)) rfl rfl ?_
        rintro u aq64 wq64 hf haq64 hsq64
        obtain rfl := Eq.symm hf
        clear haq63 hsq58 aq63 wq58
        refine seq_op0 haq64 hsq64 (opT_assign (v := .bool false) rfl rfl) rfl rfl ?_
        rintro u aq65 wq65 hf haq65 hsq65
        obtain rfl := Eq.symm hf
        clear haq64 hsq64 aq64 wq64
        refine wpList_nil ?_
        replace haq65 := haq65.pick' (L' := [(4, .bool false)]) ⟨rfl, trivial⟩
        refine nrm ?_
        refine wp_ret ?_
        obtain rfl := Option.some.inj hm
        exact ret_1 haq65 rfl (res_tmp haq65 rfl) ⟨_, rfl, rfl, _, Hp.le.rfl, St.sel (hsq65) 3 [2] rfl rfl⟩
      · replace hm := ifTe hb3 hm
        refine seq_op_g0 (g := 19) (d := 24) (want := true) (b := r3) haq58 hsq58 rfl rfl rfl hb3 (opT_field_addr (g := g1) (b := 0) tf78_3 rfl rfl) rfl ?_
        rintro u aq66 wq66 hf haq66 hsq66
        obtain rfl := Eq.symm hf
        clear haq58 hsq58 aq58 wq58
        refine seq_op_g (g := 19) (d := 24) (want := true) (b := r3) haq66 hsq66 rfl rfl rfl hb3 (opT_load_blk (g := g1) (off := 5) (E := 78) (l := [.int .i64 p0a.1.1, va0, va1, va2, va3, .string p0a.2.2.2]) (d := [.string p0a.2.2.2]) (u := .string p0a.2.2.2) ti9 rfl rfl rfl rfl rfl rfl) (perm_front (i := 1) rfl) rfl ?_
        rintro u aq67 wq67 hf haq67 (hsq67 : St I w0 wq67 [Ch.blk g1 [.int .i64 p0a.1.1, va0, va1, va2, va3, .string p0a.2.2.2] 78, Ch.blk g2 [.int .i64 p1b.1.1, va4, va5, va6, va7, .string p1b.2.2.2] 78, F])
        obtain rfl := Eq.symm hf
        clear haq66 hsq66 aq66 wq66
        refine seq_op_g0 (g := 19) (d := 24) (want := true) (b := r3) haq67 hsq67 rfl rfl rfl hb3 (opT_field_addr (g := g2) (b := 0) tf78_3 rfl rfl) rfl ?_
        rintro u aq68 wq68 hf haq68 hsq68
        obtain rfl := Eq.symm hf
        clear haq67 hsq67 aq67 wq67
        refine seq_op_g (g := 19) (d := 24) (want := true) (b := r3) haq68 hsq68 rfl rfl rfl hb3 (opT_load_blk (g := g2) (off := 5) (E := 78) (l := [.int .i64 p1b.1.1, va4, va5, va6, va7, .string p1b.2.2.2]) (d := [.string p1b.2.2.2]) (u := .string p1b.2.2.2) ti9 rfl rfl rfl rfl rfl rfl) (perm_front (i := 1) rfl) rfl ?_
        rintro u aq69 wq69 hf haq69 (hsq69 : St I w0 wq69 [Ch.blk g2 [.int .i64 p1b.1.1, va4, va5, va6, va7, .string p1b.2.2.2] 78, Ch.blk g1 [.int .i64 p0a.1.1, va0, va1, va2, va3, .string p0a.2.2.2] 78, F])
        obtain rfl := Eq.symm hf
        clear haq68 hsq68 aq68 wq68
        refine seq_op_g0 (g := 19) (d := 24) (want := true) (b := r3) haq69 hsq69 rfl rfl rfl hb3 (opT_eqs (a := p0a.2.2.2) (b := p1b.2.2.2) rfl rfl rfl) rfl ?_
        rintro u aq70 wq70 hf haq70 hsq70
        obtain rfl := Eq.symm hf
        clear haq69 hsq69 aq69 wq69
        refine seq_op0 haq70 hsq70 (opT_pick (b := r3) (v := .bool (p0a.2.2.2 == p1b.2.2.2)) rfl rfl (ifT hb3)) rfl rfl ?_
        rintro u aq71 wq71 hf haq71 hsq71
        obtain rfl := Eq.symm hf
        clear haq70 hsq70 aq70 wq70
        refine seq_op0 haq71 hsq71 (opT_assign (v := .bool (p0a.2.2.2 == p1b.2.2.2)) rfl rfl) rfl rfl ?_
        rintro u aq72 wq72 hf haq72 hsq72
        obtain rfl := Eq.symm hf
        clear haq71 hsq71 aq71 wq71
        refine wpList_nil ?_
        replace haq72 := haq72.pick' (L' := [(4, .bool (p0a.2.2.2 == p1b.2.2.2))]) ⟨rfl, trivial⟩
        refine nrm ?_
        refine wp_ret ?_
        obtain rfl := Option.some.inj hm
        exact ret_1 haq72 rfl (res_tmp haq72 rfl) ⟨_, rfl, rfl, _, Hp.le.rfl, St.sel (hsq72) 3 [2] rfl rfl⟩
end Go.Proofs.Ytcihbmdppgpmjaa.D
