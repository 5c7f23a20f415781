/- Printed by dec.py: models of functions and the walks that show them. -/
import Derived.Test.YtcihbmdppgpmjaaIw0_0
import Derived.Test.YtcihbmdppgpmjaaIw0_2
set_option linter.unusedVariables false
set_option linter.unusedSimpArgs false
set_option linter.unnecessarySimpa false
set_option maxRecDepth 100000
namespace Go.Proofs.Ytcihbmdppgpmjaa.D
open Go.RowKit
set_option maxHeartbeats 8000000 in
theorem c_s_EqualAutomata (p0 : Int × (List Bool) × (List (List Int))) (p1 : Int × (List Bool) × (List (List Int))) (r : Bool) (hm : m_s_EqualAutomata p0 p1 = some r) {I : Hp} {w0 : World} (va0 : Value) (va1 : Value) (va2 : Value) (va3 : Value) (ra0 : (rSlice 4 rBool).rd I [va0] p0.2.1) (ra1 : (rSlice 34 (rSlice 3 rInt)).rd I [va1] p0.2.2) (ra2 : (rSlice 4 rBool).rd I [va2] p1.2.1) (ra3 : (rSlice 34 (rSlice 3 rInt)).rd I [va3] p1.2.2) : Con Try.prog 59 #[.agg #[.int .i64 p0.1, va0, va1], .agg #[.int .i64 p1.1, va2, va3]] I w0 [] (fun v => v = .bool r) (fun v => []) := by
  refine con_of_wp (n := 67) [(0, .agg #[.int .i64 p0.1, va0, va1]), (1, .agg #[.int .i64 p1.1, va2, va3])] Try.func59 rfl rfl (Nat.le_of_ble_eq_true rfl) (args_all ⟨rfl, rfl, trivial⟩) (fun F w a ha hs => ?_) (fun v => trivial)
  unfold m_s_EqualAutomata at hm
  refine wp_seq ?_
  refine wp_region_lit ?_
  refine seq_op ha hs rfl (opT_box (u := .agg #[.int .i64 p0.1, va0, va1]) (l := [.int .i64 p0.1, va0, va1]) rfl rfl rfl) (List.Perm.refl _) rfl ?_
  rintro _ aq1 wq1 ⟨g1, rfl⟩ haq1 (hsq1 : St I w0 wq1 [Ch.blk g1 [.int .i64 p0.1, va0, va1] 27, F])
  clear ha hs a w
  refine seq_op haq1 hsq1 rfl (opT_box (u := .agg #[.int .i64 p1.1, va2, va3]) (l := [.int .i64 p1.1, va2, va3]) rfl rfl rfl) (List.Perm.refl _) rfl ?_
  rintro _ aq2 wq2 ⟨g2, rfl⟩ haq2 (hsq2 : St I w0 wq2 [Ch.blk g2 [.int .i64 p1.1, va2, va3] 27, Ch.blk g1 [.int .i64 p0.1, va0, va1] 27, F])
  clear haq1 hsq1 aq1 wq1
  refine seq_op0 haq2 hsq2 (opT_assign (v := .bool false) rfl rfl) rfl rfl ?_
  rintro u aq3 wq3 hf haq3 hsq3
  obtain rfl := Eq.symm hf
  clear haq2 hsq2 aq2 wq2
  refine wpList_nil ?_
  replace haq3 := haq3.pick' (L' := [(2, .pointer (some ⟨g1, 0, none⟩)), (3, .pointer (some ⟨g2, 0, none⟩))]) ⟨rfl, rfl, trivial⟩
  refine nrm ?_
  refine wp_seq ?_
  refine wp_seq ?_
  refine wp_region_lit ?_
  refine seq_op0 haq3 hsq3 (opT_field_addr (g := g1) (b := 0) tf27_0 rfl rfl) rfl rfl ?_
  rintro u aq4 wq4 hf haq4 hsq4
  obtain rfl := Eq.symm hf
  clear haq3 hsq3 aq3 wq3
  refine seq_op haq4 hsq4 rfl (opT_load_blk (g := g1) (off := 0) (E := 27) (l := [.int .i64 p0.1, va0, va1]) (d := [.int .i64 p0.1]) (u := .int .i64 p0.1) ti3 rfl rfl rfl rfl rfl rfl) (perm_front (i := 1) rfl) rfl ?_
  rintro u aq5 wq5 hf haq5 (hsq5 : St I w0 wq5 [Ch.blk g1 [.int .i64 p0.1, va0, va1] 27, Ch.blk g2 [.int .i64 p1.1, va2, va3] 27, F])
  obtain rfl := Eq.symm hf
  clear haq4 hsq4 aq4 wq4
  refine seq_op0 haq5 hsq5 (opT_field_addr (g := g2) (b := 0) tf27_0 rfl rfl) rfl rfl ?_
  rintro u aq6 wq6 hf haq6 hsq6
  obtain rfl := Eq.symm hf
  clear haq5 hsq5 aq5 wq5
  refine seq_op haq6 hsq6 rfl (opT_load_blk (g := g2) (off := 0) (E := 27) (l := [.int .i64 p1.1, va2, va3]) (d := [.int .i64 p1.1]) (u := .int .i64 p1.1) ti3 rfl rfl rfl rfl rfl rfl) (perm_front (i := 1) rfl) rfl ?_
  rintro u aq7 wq7 hf haq7 (hsq7 : St I w0 wq7 [Ch.blk g2 [.int .i64 p1.1, va2, va3] 27, Ch.blk g1 [.int .i64 p0.1, va0, va1] 27, F])
  obtain rfl := Eq.symm hf
  clear haq6 hsq6 aq6 wq6
  refine seq_op0 haq7 hsq7 (opT_cmp (k := .i64) (m := p0.1) (n := p1.1) (c := p0.1 != p1.1) rfl rfl rfl rfl rfl) rfl rfl ?_
  rintro u aq8 wq8 hf haq8 hsq8
  obtain rfl := Eq.symm hf
  clear haq7 hsq7 aq7 wq7
  refine seq_op0 haq8 hsq8 (opT_move (v := .bool (p0.1 != p1.1)) rfl rfl) rfl rfl ?_
  rintro u aq9 wq9 hf haq9 hsq9
  obtain rfl := Eq.symm hf
  clear haq8 hsq8 aq8 wq8
  rcases two (p0.1 != p1.1) with hb1 | hb1
  · replace hm := ifFe hb1 hm
    refine seq_op_g0 (g := 5) (d := 12) (want := false) (b := p0.1 != p1.1) haq9 hsq9 rfl rfl rfl hb1 (opT_field_addr (g := g1) (b := 0) tf27_1 rfl rfl) rfl ?_
    rintro u aq10 wq10 hf haq10 hsq10
    obtain rfl := Eq.symm hf
    clear haq9 hsq9 aq9 wq9
    refine seq_op_g (g := 5) (d := 12) (want := false) (b := p0.1 != p1.1) haq10 hsq10 rfl rfl rfl hb1 (opT_load_blk (g := g1) (off := 1) (E := 27) (l := [.int .i64 p0.1, va0, va1]) (d := [va0]) (u := va0) ti22 rfl rfl rfl rfl rfl rfl) (perm_front (i := 1) rfl) rfl ?_
    rintro u aq11 wq11 hf haq11 (hsq11 : St I w0 wq11 [Ch.blk g1 [.int .i64 p0.1, va0, va1] 27, Ch.blk g2 [.int .i64 p1.1, va2, va3] 27, F])
    obtain rfl := Eq.symm hf
    clear haq10 hsq10 aq10 wq10
    refine seq_op_g0 (g := 5) (d := 12) (want := false) (b := p0.1 != p1.1) haq11 hsq11 rfl rfl rfl hb1 (opT_len_hd (v := va0) (n := p0.2.1.length) (Hd.of_rd ra0) Try.underlying22 rfl rfl) rfl ?_
    rintro u aq12 wq12 hf haq12 hsq12
    obtain rfl := Eq.symm hf
    clear haq11 hsq11 aq11 wq11
    refine seq_op_g0 (g := 5) (d := 12) (want := false) (b := p0.1 != p1.1) haq12 hsq12 rfl rfl rfl hb1 (opT_field_addr (g := g2) (b := 0) tf27_1 rfl rfl) rfl ?_
    rintro u aq13 wq13 hf haq13 hsq13
    obtain rfl := Eq.symm hf
    clear haq12 hsq12 aq12 wq12
    refine seq_op_g (g := 5) (d := 12) (want := false) (b := p0.1 != p1.1) haq13 hsq13 rfl rfl rfl hb1 (opT_load_blk (g := g2) (off := 1) (E := 27) (l := [.int .i64 p1.1, va2, va3]) (d := [va2]) (u := va2) ti22 rfl rfl rfl rfl rfl rfl) (perm_front (i := 1) rfl) rfl ?_
    rintro u aq14 wq14 hf haq14 (hsq14 : St I w0 wq14 [Ch.blk g2 [.int .i64 p1.1, va2, va3] 27, Ch.blk g1 [.int .i64 p0.1, va0, va1] 27, F])
    obtain rfl := Eq.symm hf
    clear haq13 hsq13 aq13 wq13
    refine seq_op_g0 (g := 5) (d := 12) (want := false) (b := p0.1 != p1.1) haq14 hsq14 rfl rfl rfl hb1 (opT_len_hd (v := va2) (n := p1.2.1.length) (Hd.of_rd ra2) Try.underlying22 rfl rfl) rfl ?_
    rintro u aq15 wq15 hf haq15 hsq15
    obtain rfl := Eq.symm hf
    clear haq14 hsq14 aq14 wq14
    refine seq_op_g0 (g := 5) (d := 12) (want := false) (b := p0.1 != p1.1) haq15 hsq15 rfl rfl rfl hb1 (opT_cmp (k := .i64) (m := (p0.2.1.length : Int)) (n := (p1.2.1.length : Int)) (c := (p0.2.1.length : Int) != (p1.2.1.length : Int)) rfl rfl rfl rfl rfl) rfl ?_
    rintro u aq16 wq16 hf haq16 hsq16
    obtain rfl := Eq.symm hf
    clear haq15 hsq15 aq15 wq15
    refine seq_op0 haq16 hsq16 (opT_pick (b := p0.1 != p1.1) (v := .bool ((p0.2.1.length : Int) != (p1.2.1.length : Int))) rfl rfl (ifF hb1)) rfl rfl ?_
    rintro u aq17 wq17 hf haq17 hsq17
    obtain rfl := Eq.symm hf
    clear haq16 hsq16 aq16 wq16
    refine seq_op0 haq17 hsq17 (opT_move (v := .bool ((p0.2.1.length : Int) != (p1.2.1.length : Int))) rfl rfl) rfl rfl ?_
    rintro u aq18 wq18 hf haq18 hsq18
    obtain rfl := Eq.symm hf
    clear haq17 hsq17 aq17 wq17
    rcases two ((p0.2.1.length : Int) != (p1.2.1.length : Int)) with hb2 | hb2
    · replace hm := ifFe hb2 hm
      refine seq_op_g0 (g := 14) (d := 21) (want := false) (b := (p0.2.1.length : Int) != (p1.2.1.length : Int)) haq18 hsq18 rfl rfl rfl hb2 (opT_field_addr (g := g1) (b := 0) tf27_2 rfl rfl) rfl ?_
      rintro u aq19 wq19 hf haq19 hsq19
      obtain rfl := Eq.symm hf
      clear haq18 hsq18 aq18 wq18
      refine seq_op_g (g := 14) (d := 21) (want := false) (b := (p0.2.1.length : Int) != (p1.2.1.length : Int)) haq19 hsq19 rfl rfl rfl hb2 (opT_load_blk (g := g1) (off := 2) (E := 27) (l := [.int .i64 p0.1, va0, va1]) (d := [va1]) (u := va1) ti23 rfl rfl rfl rfl rfl rfl) (perm_front (i := 1) rfl) rfl ?_
      rintro u aq20 wq20 hf haq20 (hsq20 : St I w0 wq20 [Ch.blk g1 [.int .i64 p0.1, va0, va1] 27, Ch.blk g2 [.int .i64 p1.1, va2, va3] 27, F])
      obtain rfl := Eq.symm hf
      clear haq19 hsq19 aq19 wq19
      refine seq_op_g0 (g := 14) (d := 21) (want := false) (b := (p0.2.1.length : Int) != (p1.2.1.length : Int)) haq20 hsq20 rfl rfl rfl hb2 (opT_len_hd (v := va1) (n := p0.2.2.length) (Hd.of_rd ra1) Try.underlying23 rfl rfl) rfl ?_
      rintro u aq21 wq21 hf haq21 hsq21
      obtain rfl := Eq.symm hf
      clear haq20 hsq20 aq20 wq20
      refine seq_op_g0 (g := 14) (d := 21) (want := false) (b := (p0.2.1.length : Int) != (p1.2.1.length : Int)) haq21 hsq21 rfl rfl rfl hb2 (opT_field_addr (g := g2) (b := 0) tf27_2 rfl rfl) rfl ?_
      rintro u aq22 wq22 hf haq22 hsq22
      obtain rfl := Eq.symm hf
      clear haq21 hsq21 aq21 wq21
      refine seq_op_g (g := 14) (d := 21) (want := false) (b := (p0.2.1.length : Int) != (p1.2.1.length : Int)) haq22 hsq22 rfl rfl rfl hb2 (opT_load_blk (g := g2) (off := 2) (E := 27) (l := [.int .i64 p1.1, va2, va3]) (d := [va3]) (u := va3) ti23 rfl rfl rfl rfl rfl rfl) (perm_front (i := 1) rfl) rfl ?_
      rintro u aq23 wq23 hf haq23 (hsq23 : St I w0 wq23 [Ch.blk g2 [.int .i64 p1.1, va2, va3] 27, Ch.blk g1 [.int .i64 p0.1, va0, va1] 27, F])
      obtain rfl := Eq.symm hf
      clear haq22 hsq22 aq22 wq22
      refine seq_op_g0 (g := 14) (d := 21) (want := false) (b := (p0.2.1.length : Int) != (p1.2.1.length : Int)) haq23 hsq23 rfl rfl rfl hb2 (opT_len_hd (v := va3) (n := p1.2.2.length) (Hd.of_rd ra3) Try.underlying23 rfl rfl) rfl ?_
      rintro u aq24 wq24 hf haq24 hsq24
      obtain rfl := Eq.symm hf
      clear haq23 hsq23 aq23 wq23
      refine seq_op_g0 (g := 14) (d := 21) (want := false) (b := (p0.2.1.length : Int) != (p1.2.1.length : Int)) haq24 hsq24 rfl rfl rfl hb2 (opT_cmp (k := .i64) (m := (p0.2.2.length : Int)) (n := (p1.2.2.length : Int)) (c := (p0.2.2.length : Int) != (p1.2.2.length : Int)) rfl rfl rfl rfl rfl) rfl ?_
      rintro u aq25 wq25 hf haq25 hsq25
      obtain rfl := Eq.symm hf
      clear haq24 hsq24 aq24 wq24
      refine seq_op0 haq25 hsq25 (opT_pick (b := (p0.2.1.length : Int) != (p1.2.1.length : Int)) (v := .bool ((p0.2.2.length : Int) != (p1.2.2.length : Int))) rfl rfl (ifF hb2)) rfl rfl ?_
      rintro u aq26 wq26 hf haq26 hsq26
      obtain rfl := Eq.symm hf
      clear haq25 hsq25 aq25 wq25
      refine wpList_nil ?_
      replace haq26 := haq26.pick' (L' := [(2, .pointer (some ⟨g1, 0, none⟩)), (3, .pointer (some ⟨g2, 0, none⟩)), (29, .bool ((p0.2.2.length : Int) != (p1.2.2.length : Int)))]) ⟨rfl, rfl, rfl, trivial⟩
      refine nrm ?_
      rcases two ((p0.2.2.length : Int) != (p1.2.2.length : Int)) with hb3 | hb3
      · replace hm := ifFe hb3 hm
        refine cnd_false (b := (p0.2.2.length : Int) != (p1.2.2.length : Int)) haq26 rfl rfl hb3 ?_
        refine wp_skip ?_
        refine nrm ?_
        refine wp_seq ?_
        refine wp_seq ?_
        refine wp_region_lit ?_
        refine seq_op0 haq26 hsq26 (opT_assign (v := .int .i64 0) rfl rfl) rfl rfl ?_
        rintro u aq27 wq27 hf haq27 hsq27
        obtain rfl := Eq.symm hf
        clear haq26 hsq26 aq26 wq26
        refine wpList_nil ?_
        replace haq27 := haq27.pick' (L' := [(2, .pointer (some ⟨g1, 0, none⟩)), (3, .pointer (some ⟨g2, 0, none⟩)), (5, .int .i64 0)]) ⟨rfl, rfl, rfl, trivial⟩
        refine nrm ?_
        obtain ⟨o1, hl1, hc1⟩ := bindL_some hm
        refine wp_cut (fun a w => ∃ s4 : Int, o1 = .brk s4 ∧ Agr 67 a [(2, .pointer (some ⟨g1, 0, none⟩)), (3, .pointer (some ⟨g2, 0, none⟩))] ∧ St I w0 w [Ch.blk g1 [.int .i64 p0.1, va0, va1] 27, Ch.blk g2 [.int .i64 p1.1, va2, va3] 27, F]) ?_ ?_
        · refine wp_block (wp_loopM (R := Bool) (S := Int) (fun s3 a w => Agr 67 a [(2, .pointer (some ⟨g1, 0, none⟩)), (3, .pointer (some ⟨g2, 0, none⟩)), (5, .int .i64 s3)] ∧ St I w0 w [Ch.blk g1 [.int .i64 p0.1, va0, va1] 27, Ch.blk g2 [.int .i64 p1.1, va2, va3] 27, F]) hl1 ?_ ?_)
          · exact ⟨haq27.pick' ⟨rfl, rfl, rfl, trivial⟩, St.sel hsq27 3 [1, 0, 2] rfl rfl⟩
          · rintro s3 o2 hm hf1 aq46 wq46 ⟨haq46, hsq46⟩
            unfold m_s_EqualAutomata_l0 at hm
            refine wp_seq ?_
            refine wp_seq ?_
            refine wp_region_lit ?_
            refine seq_op0 haq46 hsq46 (opT_move (v := .int .i64 s3) rfl rfl) rfl rfl ?_
            rintro u aq47 wq47 hf haq47 hsq47
            obtain rfl := Eq.symm hf
            clear haq46 hsq46 aq46 wq46
            refine seq_op0 haq47 hsq47 (opT_field_addr (g := g1) (b := 0) tf27_1 rfl rfl) rfl rfl ?_
            rintro u aq48 wq48 hf haq48 hsq48
            obtain rfl := Eq.symm hf
            clear haq47 hsq47 aq47 wq47
            refine seq_op haq48 hsq48 rfl (opT_load_blk (g := g1) (off := 1) (E := 27) (l := [.int .i64 p0.1, va0, va1]) (d := [va0]) (u := va0) ti22 rfl rfl rfl rfl rfl rfl) (perm_front (i := 0) rfl) rfl ?_
            rintro u aq49 wq49 hf haq49 (hsq49 : St I w0 wq49 [Ch.blk g1 [.int .i64 p0.1, va0, va1] 27, Ch.blk g2 [.int .i64 p1.1, va2, va3] 27, F])
            obtain rfl := Eq.symm hf
            clear haq48 hsq48 aq48 wq48
            refine seq_op0 haq49 hsq49 (opT_len_hd (v := va0) (n := p0.2.1.length) (Hd.of_rd ra0) Try.underlying22 rfl rfl) rfl rfl ?_
            rintro u aq50 wq50 hf haq50 hsq50
            obtain rfl := Eq.symm hf
            clear haq49 hsq49 aq49 wq49
            refine seq_op0 haq50 hsq50 (opT_cmp (k := .i64) (m := s3) (n := (p0.2.1.length : Int)) (c := decide (s3 < (p0.2.1.length : Int))) rfl rfl rfl rfl rfl) rfl rfl ?_
            rintro u aq51 wq51 hf haq51 hsq51
            obtain rfl := Eq.symm hf
            clear haq50 hsq50 aq50 wq50
            refine wpList_nil ?_
            replace haq51 := haq51.pick' (L' := [(2, .pointer (some ⟨g1, 0, none⟩)), (3, .pointer (some ⟨g2, 0, none⟩)), (5, .int .i64 s3), (34, .bool (decide (s3 < (p0.2.1.length : Int))))]) ⟨rfl, rfl, rfl, rfl, trivial⟩
            refine nrm ?_
            rcases two (decide (s3 < (p0.2.1.length : Int))) with hb8 | hb8
            · replace hm := ifFe hb8 hm
              refine cnd_false (b := decide (s3 < (p0.2.1.length : Int))) haq51 rfl rfl hb8 ?_
              refine wp_exit ?_
              refine thenX ?_
              refine thenX ?_
              refine ex_in ?_
              refine nrm ?_
              exact ⟨_, loopBrk hm hf1, ⟨haq51.pick' ⟨rfl, rfl, trivial⟩, St.sel hsq51 3 [0, 1, 2] rfl rfl⟩⟩
            · replace hm := ifTe hb8 hm
              refine cnd_true (b := decide (s3 < (p0.2.1.length : Int))) haq51 rfl rfl hb8 ?_
              refine wp_skip ?_
              refine nrm ?_
              refine wp_seq ?_
              refine wp_block ?_
              refine wp_seq ?_
              obtain ⟨x5, e5, hm⟩ := bind_some hm
              obtain ⟨x6, e6, hm⟩ := bind_some hm
              refine wp_draw (L := [(2, .pointer (some ⟨g1, 0, none⟩)), (3, .pointer (some ⟨g2, 0, none⟩)), (5, .int .i64 s3), (34, .bool (decide (s3 < (p0.2.1.length : Int))))]) (C := [F]) { ops := [⟨[], [], [], [0], fun | [xo0] => xo0 = .pointer (some ⟨g1, 1, none⟩) | _ => True, [(2, none)]⟩, ⟨[0], [], [], [1], fun | [xo1] => xo1 = va0 | _ => True, [(37, some 0)]⟩, ⟨[], [], [], [2], fun | [xo2] => xo2 = .int .i64 s3 | _ => True, [(5, none)]⟩, ⟨[], [], [], [3], fun | [xo3] => xo3 = pt va0 (s3.toNat * 1) | _ => True, [(38, some 1), (39, some 2)]⟩, ⟨[], [], [], [4], fun | [xo4] => xo4 = .bool x5 | _ => True, [(40, some 3)]⟩, ⟨[], [], [], [5], fun | [xo5] => xo5 = .pointer (some ⟨g2, 1, none⟩) | _ => True, [(3, none)]⟩, ⟨[1], [], [], [6], fun | [xo6] => xo6 = va2 | _ => True, [(42, some 5)]⟩, ⟨[], [], [], [7], fun | [xo7] => xo7 = .int .i64 s3 | _ => True, [(5, none)]⟩, ⟨[], [], [], [8], fun | [xo8] => xo8 = pt va2 (s3.toNat * 1) | _ => True, [(43, some 6), (44, some 7)]⟩, ⟨[], [], [], [9], fun | [xo9] => xo9 = .bool x6 | _ => True, [(45, some 8)]⟩, ⟨[], [], [], [10], fun | [xo10] => xo10 = .bool (x5 != x6) | _ => True, [(41, some 4), (46, some 9)]⟩], res := [⟨[], fun _ => Ch.blk g1 [.int .i64 p0.1, va0, va1] 27⟩, ⟨[], fun _ => Ch.blk g2 [.int .i64 p1.1, va2, va3] 27⟩], base := [0, 1], pre := [[], [0], [], [0, 1, 2], [0, 1, 2, 3], [], [5], [], [5, 6, 7], [5, 6, 7, 8], [0, 1, 2, 3, 4, 5, 6, 7, 8, 9]], fin := [(2, none), (3, none), (5, none), (47, some 10)], left := [0, 1] } (by kernel_rfl) haq51 hsq51 (perm_sel [0, 1, 2] (m := 3) rfl rfl) (by kernel_rfl) (by kernel_rfl) ?_ ?_
              · exact ⟨Plan.goal_run fun vs hf => ⟨wants_none rfl, OpT.conv (OpT.evs (ev' := evL [(2, .pointer (some ⟨g1, 0, none⟩))]) (opT_field_addr (g := g1) (b := 0) tf27_1 rfl rfl) rfl [.tmp 2] rfl ⟨rfl, trivial⟩) rfl (fun _ h => Eq.trans h rfl) (fun _ => rfl)⟩, Plan.goal_run fun vs hf => ⟨wants_none rfl, OpT.conv (OpT.evs (ev' := evL [(37, .pointer (some ⟨g1, 1, none⟩))]) (opT_load_blk (g := g1) (off := 1) (E := 27) (l := [.int .i64 p0.1, va0, va1]) (d := [va0]) (u := va0) ti22 rfl rfl rfl rfl rfl rfl) rfl [.tmp 37] rfl ⟨(hf 0 (mb rfl)), trivial⟩) rfl (fun _ h => Eq.trans h rfl) (fun _ => rfl)⟩, Plan.goal_run fun vs hf => ⟨wants_none rfl, OpT.conv (OpT.evs (ev' := evL [(5, .int .i64 s3)]) (opT_move (v := .int .i64 s3) rfl rfl) rfl [.tmp 5] rfl ⟨rfl, trivial⟩) rfl (fun _ h => Eq.trans h rfl) (fun _ => rfl)⟩, Plan.goal_run fun vs hf => ⟨wants_none rfl, OpT.conv (OpT.evs (ev' := evL [(38, va0), (39, .int .i64 s3)]) (opT_index_hd (xs := p0.2.1) (i := s3) (n := 1) (Hd.of_rd ra0) Try.underlying22 ti4 rfl rfl rfl (getI_in e5)) rfl [.tmp 38, .tmp 39] rfl ⟨(hf 1 (mb rfl)), (hf 2 (mb rfl)), trivial⟩) rfl (fun _ h => Eq.trans h rfl) (fun _ => rfl)⟩, Plan.goal_run fun vs hf => ⟨wants_none rfl, OpT.conv (OpT.evs (ev' := evL [(40, pt va0 (s3.toNat * 1))]) (opT_load_el (S := rBool) (xs := p0.2.1) (a := x5) (i := s3) (k := 1) (off := 0) (f := fun (x : Bool) => x) ra0 e5 Fld.self ti4 rfl rfl rfl rfl rfl) rfl [.tmp 40] rfl ⟨(hf 3 (mb rfl)), trivial⟩) rfl (fun _ h => lds_one h) (fun _ => rfl)⟩, Plan.goal_run fun vs hf => ⟨wants_none rfl, OpT.conv (OpT.evs (ev' := evL [(3, .pointer (some ⟨g2, 0, none⟩))]) (opT_field_addr (g := g2) (b := 0) tf27_1 rfl rfl) rfl [.tmp 3] rfl ⟨rfl, trivial⟩) rfl (fun _ h => Eq.trans h rfl) (fun _ => rfl)⟩, Plan.goal_run fun vs hf => ⟨wants_none rfl, OpT.conv (OpT.evs (ev' := evL [(42, .pointer (some ⟨g2, 1, none⟩))]) (opT_load_blk (g := g2) (off := 1) (E := 27) (l := [.int .i64 p1.1, va2, va3]) (d := [va2]) (u := va2) ti22 rfl rfl rfl rfl rfl rfl) rfl [.tmp 42] rfl ⟨(hf 5 (mb rfl)), trivial⟩) rfl (fun _ h => Eq.trans h rfl) (fun _ => rfl)⟩, Plan.goal_run fun vs hf => ⟨wants_none rfl, OpT.conv (OpT.evs (ev' := evL [(5, .int .i64 s3)]) (opT_move (v := .int .i64 s3) rfl rfl) rfl [.tmp 5] rfl ⟨rfl, trivial⟩) rfl (fun _ h => Eq.trans h rfl) (fun _ => rfl)⟩, Plan.goal_run fun vs hf => ⟨wants_none rfl, OpT.conv (OpT.evs (ev' := evL [(43, va2), (44, .int .i64 s3)]) (opT_index_hd (xs := p1.2.1) (i := s3) (n := 1) (Hd.of_rd ra2) Try.underlying22 ti4 rfl rfl rfl (getI_in e6)) rfl [.tmp 43, .tmp 44] rfl ⟨(hf 6 (mb rfl)), (hf 7 (mb rfl)), trivial⟩) rfl (fun _ h => Eq.trans h rfl) (fun _ => rfl)⟩, Plan.goal_run fun vs hf => ⟨wants_none rfl, OpT.conv (OpT.evs (ev' := evL [(45, pt va2 (s3.toNat * 1))]) (opT_load_el (S := rBool) (xs := p1.2.1) (a := x6) (i := s3) (k := 1) (off := 0) (f := fun (x : Bool) => x) ra2 e6 Fld.self ti4 rfl rfl rfl rfl rfl) rfl [.tmp 45] rfl ⟨(hf 8 (mb rfl)), trivial⟩) rfl (fun _ h => lds_one h) (fun _ => rfl)⟩, Plan.goal_run fun vs hf => ⟨wants_none rfl, OpT.conv (OpT.evs (ev' := evL [(41, .bool x5), (46, .bool x6)]) (opT_neb (b := x5) (c := x6) Try.underlying4 rfl rfl rfl) rfl [.tmp 41, .tmp 46] rfl ⟨(hf 4 (mb rfl)), (hf 9 (mb rfl)), trivial⟩) rfl (fun _ h => Eq.trans h rfl) (fun _ => rfl)⟩, trivial⟩
              intro vs aq52 wq52 hf haq52 hsq52
              clear haq51 hsq51
              replace haq52 := haq52.pick' (L' := [(2, .pointer (some ⟨g1, 0, none⟩)), (3, .pointer (some ⟨g2, 0, none⟩)), (5, .int .i64 s3), (47, .bool (x5 != x6))]) ⟨rfl, rfl, rfl, (congrArg some (show _ = _ from (hf 10 (Nat.le_of_ble_eq_true rfl)))), trivial⟩
              replace hsq52 : St I w0 wq52 [Ch.blk g1 [.int .i64 p0.1, va0, va1] 27, Ch.blk g2 [.int .i64 p1.1, va2, va3] 27, F] := hsq52
              clear hf vs
              refine nrm ?_
              rcases two (x5 != x6) with hb9 | hb9
              · replace hm := ifFe hb9 hm
                refine cnd_false (b := x5 != x6) haq52 rfl rfl hb9 ?_
                refine wp_skip ?_
                refine nrmB ?_
                refine nrm ?_
                refine wp_region_lit ?_
                refine seq_op0 haq52 hsq52 (opT_move (v := .int .i64 s3) rfl rfl) rfl rfl ?_
                rintro u aq53 wq53 hf haq53 hsq53
                obtain rfl := Eq.symm hf
                clear haq52 hsq52 aq52 wq52
                refine seq_op0 haq53 hsq53 (opT_add (m := s3) (n := 1) rfl rfl rfl) rfl rfl ?_
                rintro u aq54 wq54 hf haq54 hsq54
                obtain rfl := Eq.symm hf
                clear haq53 hsq53 aq53 wq53
                refine seq_op0 haq54 hsq54 (opT_assign (v := .int .i64 (IntKind.i64.wrap (s3 + 1))) rfl rfl) rfl rfl ?_
                rintro u aq55 wq55 hf haq55 hsq55
                obtain rfl := Eq.symm hf
                clear haq54 hsq54 aq54 wq54
                refine wpList_nil ?_
                replace haq55 := haq55.pick' (L' := [(2, .pointer (some ⟨g1, 0, none⟩)), (3, .pointer (some ⟨g2, 0, none⟩)), (5, .int .i64 (IntKind.i64.wrap (s3 + 1)))]) ⟨rfl, rfl, rfl, trivial⟩
                refine nrm ?_
                exact ⟨_, (Option.some.inj hm).symm, ⟨haq55.pick' ⟨rfl, rfl, rfl, trivial⟩, St.sel hsq55 3 [0, 1, 2] rfl rfl⟩⟩
              · replace hm := ifTe hb9 hm
                refine cnd_true (b := x5 != x6) haq52 rfl rfl hb9 ?_
                refine wp_seq ?_
                refine wp_region_lit ?_
                refine seq_op0 haq52 hsq52 (opT_assign (v := .bool false) rfl rfl) rfl rfl ?_
                rintro u aq56 wq56 hf haq56 hsq56
                obtain rfl := Eq.symm hf
                clear haq52 hsq52 aq52 wq52
                refine wpList_nil ?_
                replace haq56 := haq56.pick' (L' := [(4, .bool false)]) ⟨rfl, trivial⟩
                refine nrm ?_
                refine wp_ret ?_
                refine blkR ?_
                refine thenR ?_
                refine thenR ?_
                refine blkR ?_
                refine thenR ?_
                refine thenR ?_
                replace hm := loopRet hm hf1 hc1
                obtain rfl := Option.some.inj hm
                exact ret_1 haq56 rfl (res_tmp haq56 rfl) ⟨_, rfl, rfl, _, Hp.le.rfl, St.sel (hsq56) 3 [2] rfl rfl⟩
        · rintro aq57 wq57 ⟨s4, ho1, haq57, hsq57⟩
          replace hm := loopOut ho1 hc1
          clear ho1 hc1 hl1
          refine nrm ?_
          refine wp_seq ?_
          refine wp_seq ?_
          refine wp_region_lit ?_
          refine seq_op0 haq57 hsq57 (opT_assign (v := .int .i64 0) rfl rfl) rfl rfl ?_
          rintro u aq58 wq58 hf haq58 hsq58
          obtain rfl := Eq.symm hf
          clear haq57 hsq57 aq57 wq57
          refine wpList_nil ?_
          replace haq58 := haq58.pick' (L' := [(2, .pointer (some ⟨g1, 0, none⟩)), (3, .pointer (some ⟨g2, 0, none⟩)), (6, .int .i64 0)]) ⟨rfl, rfl, rfl, trivial⟩
          refine nrm ?_
          obtain ⟨o3, hl2, hc2⟩ := bindL_some hm
          refine wp_cut (fun a w => ∃ s8 : Int, o3 = .brk s8 ∧ Agr 67 a [] ∧ St I w0 w [F]) ?_ ?_
          · refine wp_block (wp_loopM (R := Bool) (S := Int) (fun s7 a w => Agr 67 a [(2, .pointer (some ⟨g1, 0, none⟩)), (3, .pointer (some ⟨g2, 0, none⟩)), (6, .int .i64 s7)] ∧ St I w0 w [Ch.blk g1 [.int .i64 p0.1, va0, va1] 27, Ch.blk g2 [.int .i64 p1.1, va2, va3] 27, F]) hl2 ?_ ?_)
            · exact ⟨haq58.pick' ⟨rfl, rfl, rfl, trivial⟩, St.sel hsq58 3 [0, 1, 2] rfl rfl⟩
            · rintro s7 o4 hm hf2 aq77 wq77 ⟨haq77, hsq77⟩
              unfold m_s_EqualAutomata_l1 at hm
              refine wp_seq ?_
              refine wp_seq ?_
              refine wp_region_lit ?_
              refine seq_op0 haq77 hsq77 (opT_move (v := .int .i64 s7) rfl rfl) rfl rfl ?_
              rintro u aq78 wq78 hf haq78 hsq78
              obtain rfl := Eq.symm hf
              clear haq77 hsq77 aq77 wq77
              refine seq_op0 haq78 hsq78 (opT_field_addr (g := g1) (b := 0) tf27_2 rfl rfl) rfl rfl ?_
              rintro u aq79 wq79 hf haq79 hsq79
              obtain rfl := Eq.symm hf
              clear haq78 hsq78 aq78 wq78
              refine seq_op haq79 hsq79 rfl (opT_load_blk (g := g1) (off := 2) (E := 27) (l := [.int .i64 p0.1, va0, va1]) (d := [va1]) (u := va1) ti23 rfl rfl rfl rfl rfl rfl) (perm_front (i := 0) rfl) rfl ?_
              rintro u aq80 wq80 hf haq80 (hsq80 : St I w0 wq80 [Ch.blk g1 [.int .i64 p0.1, va0, va1] 27, Ch.blk g2 [.int .i64 p1.1, va2, va3] 27, F])
              obtain rfl := Eq.symm hf
              clear haq79 hsq79 aq79 wq79
              refine seq_op0 haq80 hsq80 (opT_len_hd (v := va1) (n := p0.2.2.length) (Hd.of_rd ra1) Try.underlying23 rfl rfl) rfl rfl ?_
              rintro u aq81 wq81 hf haq81 hsq81
              obtain rfl := Eq.symm hf
              clear haq80 hsq80 aq80 wq80
              refine seq_op0 haq81 hsq81 (opT_cmp (k := .i64) (m := s7) (n := (p0.2.2.length : Int)) (c := decide (s7 < (p0.2.2.length : Int))) rfl rfl rfl rfl rfl) rfl rfl ?_
              rintro u aq82 wq82 hf haq82 hsq82
              obtain rfl := Eq.symm hf
              clear haq81 hsq81 aq81 wq81
              refine wpList_nil ?_
              replace haq82 := haq82.pick' (L' := [(2, .pointer (some ⟨g1, 0, none⟩)), (3, .pointer (some ⟨g2, 0, none⟩)), (6, .int .i64 s7), (52, .bool (decide (s7 < (p0.2.2.length : Int))))]) ⟨rfl, rfl, rfl, rfl, trivial⟩
              refine nrm ?_
              rcases two (decide (s7 < (p0.2.2.length : Int))) with hb14 | hb14
              · replace hm := ifFe hb14 hm
                refine cnd_false (b := decide (s7 < (p0.2.2.length : Int))) haq82 rfl rfl hb14 ?_
                refine wp_exit ?_
                refine thenX ?_
                refine thenX ?_
                refine ex_in ?_
                refine nrm ?_
                exact ⟨_, loopBrk hm hf2, ⟨haq82.pick' trivial, St.sel hsq82 3 [2] rfl rfl⟩⟩
              · replace hm := ifTe hb14 hm
                refine cnd_true (b := decide (s7 < (p0.2.2.length : Int))) haq82 rfl rfl hb14 ?_
                refine wp_skip ?_
                refine nrm ?_
                refine wp_seq ?_
                refine wp_block ?_
                refine wp_seq ?_
                obtain ⟨x11, e13, hm⟩ := bind_some hm
                obtain ⟨x12, e14, hm⟩ := bind_some hm
                obtain ⟨r9, e15, hm⟩ := bind_some hm
                refine wp_draw (L := [(2, .pointer (some ⟨g1, 0, none⟩)), (3, .pointer (some ⟨g2, 0, none⟩)), (6, .int .i64 s7), (52, .bool (decide (s7 < (p0.2.2.length : Int))))]) (C := [F]) { ops := [⟨[], [], [], [0], fun | [xo0] => xo0 = .pointer (some ⟨g1, 2, none⟩) | _ => True, [(2, none)]⟩, ⟨[0], [], [], [1], fun | [xo1] => xo1 = va1 | _ => True, [(55, some 0)]⟩, ⟨[], [], [], [2], fun | [xo2] => xo2 = .int .i64 s7 | _ => True, [(6, none)]⟩, ⟨[], [], [], [3], fun | [xo3] => xo3 = pt va1 (s7.toNat * 1) | _ => True, [(56, some 1), (57, some 2)]⟩, ⟨[], [], [], [4], fun | [xo4] => (rSlice 3 rInt).rd I [xo4] x11 | _ => True, [(58, some 3)]⟩, ⟨[], [], [], [5], fun | [xo5] => xo5 = .pointer (some ⟨g2, 2, none⟩) | _ => True, [(3, none)]⟩, ⟨[1], [], [], [6], fun | [xo6] => xo6 = va3 | _ => True, [(60, some 5)]⟩, ⟨[], [], [], [7], fun | [xo7] => xo7 = .int .i64 s7 | _ => True, [(6, none)]⟩, ⟨[], [], [], [8], fun | [xo8] => xo8 = pt va3 (s7.toNat * 1) | _ => True, [(61, some 6), (62, some 7)]⟩, ⟨[], [], [], [9], fun | [xo9] => (rSlice 3 rInt).rd I [xo9] x12 | _ => True, [(63, some 8)]⟩, ⟨[], [], [], [10], fun | [xo10] => xo10 = .int .i64 r9 | _ => True, [(59, some 4), (64, some 9)]⟩, ⟨[], [], [], [11], fun | [xo11] => xo11 = .bool (r9 != 0) | _ => True, [(65, some 10)]⟩], res := [⟨[], fun _ => Ch.blk g1 [.int .i64 p0.1, va0, va1] 27⟩, ⟨[], fun _ => Ch.blk g2 [.int .i64 p1.1, va2, va3] 27⟩], base := [0, 1], pre := [[], [0], [], [0, 1, 2], [0, 1, 2, 3], [], [5], [], [5, 6, 7], [5, 6, 7, 8], [0, 1, 2, 3, 4, 5, 6, 7, 8, 9], [0, 1, 2, 3, 4, 5, 6, 7, 8, 9, 10]], fin := [(2, none), (3, none), (6, none), (66, some 11)], left := [0, 1] } (by kernel_rfl) haq82 hsq82 (perm_sel [0, 1, 2] (m := 3) rfl rfl) (by kernel_rfl) (by kernel_rfl) ?_ ?_
                · exact ⟨Plan.goal_run fun vs hf => ⟨wants_none rfl, OpT.conv (OpT.evs (ev' := evL [(2, .pointer (some ⟨g1, 0, none⟩))]) (opT_field_addr (g := g1) (b := 0) tf27_2 rfl rfl) rfl [.tmp 2] rfl ⟨rfl, trivial⟩) rfl (fun _ h => Eq.trans h rfl) (fun _ => rfl)⟩, Plan.goal_run fun vs hf => ⟨wants_none rfl, OpT.conv (OpT.evs (ev' := evL [(55, .pointer (some ⟨g1, 2, none⟩))]) (opT_load_blk (g := g1) (off := 2) (E := 27) (l := [.int .i64 p0.1, va0, va1]) (d := [va1]) (u := va1) ti23 rfl rfl rfl rfl rfl rfl) rfl [.tmp 55] rfl ⟨(hf 0 (mb rfl)), trivial⟩) rfl (fun _ h => Eq.trans h rfl) (fun _ => rfl)⟩, Plan.goal_run fun vs hf => ⟨wants_none rfl, OpT.conv (OpT.evs (ev' := evL [(6, .int .i64 s7)]) (opT_move (v := .int .i64 s7) rfl rfl) rfl [.tmp 6] rfl ⟨rfl, trivial⟩) rfl (fun _ h => Eq.trans h rfl) (fun _ => rfl)⟩, Plan.goal_run fun vs hf => ⟨wants_none rfl, OpT.conv (OpT.evs (ev' := evL [(56, va1), (57, .int .i64 s7)]) (opT_index_hd (xs := p0.2.2) (i := s7) (n := 1) (Hd.of_rd ra1) Try.underlying23 ti34 rfl rfl rfl (getI_in e13)) rfl [.tmp 56, .tmp 57] rfl ⟨(hf 1 (mb rfl)), (hf 2 (mb rfl)), trivial⟩) rfl (fun _ h => Eq.trans h rfl) (fun _ => rfl)⟩, Plan.goal_run fun vs hf => ⟨wants_none rfl, OpT.conv (OpT.evs (ev' := evL [(58, pt va1 (s7.toNat * 1))]) (opT_load_el (S := rSlice 3 rInt) (xs := p0.2.2) (a := x11) (i := s7) (k := 1) (off := 0) (f := fun (x : List Int) => x) ra1 e13 Fld.self ti34 rfl rfl rfl rfl rfl) rfl [.tmp 58] rfl ⟨(hf 3 (mb rfl)), trivial⟩) rfl (fun _ h => lds_sl h) (fun _ => rfl)⟩, Plan.goal_run fun vs hf => ⟨wants_none rfl, OpT.conv (OpT.evs (ev' := evL [(3, .pointer (some ⟨g2, 0, none⟩))]) (opT_field_addr (g := g2) (b := 0) tf27_2 rfl rfl) rfl [.tmp 3] rfl ⟨rfl, trivial⟩) rfl (fun _ h => Eq.trans h rfl) (fun _ => rfl)⟩, Plan.goal_run fun vs hf => ⟨wants_none rfl, OpT.conv (OpT.evs (ev' := evL [(60, .pointer (some ⟨g2, 2, none⟩))]) (opT_load_blk (g := g2) (off := 2) (E := 27) (l := [.int .i64 p1.1, va2, va3]) (d := [va3]) (u := va3) ti23 rfl rfl rfl rfl rfl rfl) rfl [.tmp 60] rfl ⟨(hf 5 (mb rfl)), trivial⟩) rfl (fun _ h => Eq.trans h rfl) (fun _ => rfl)⟩, Plan.goal_run fun vs hf => ⟨wants_none rfl, OpT.conv (OpT.evs (ev' := evL [(6, .int .i64 s7)]) (opT_move (v := .int .i64 s7) rfl rfl) rfl [.tmp 6] rfl ⟨rfl, trivial⟩) rfl (fun _ h => Eq.trans h rfl) (fun _ => rfl)⟩, Plan.goal_run fun vs hf => ⟨wants_none rfl, OpT.conv (OpT.evs (ev' := evL [(61, va3), (62, .int .i64 s7)]) (opT_index_hd (xs := p1.2.2) (i := s7) (n := 1) (Hd.of_rd ra3) Try.underlying23 ti34 rfl rfl rfl (getI_in e14)) rfl [.tmp 61, .tmp 62] rfl ⟨(hf 6 (mb rfl)), (hf 7 (mb rfl)), trivial⟩) rfl (fun _ h => Eq.trans h rfl) (fun _ => rfl)⟩, Plan.goal_run fun vs hf => ⟨wants_none rfl, OpT.conv (OpT.evs (ev' := evL [(63, pt va3 (s7.toNat * 1))]) (opT_load_el (S := rSlice 3 rInt) (xs := p1.2.2) (a := x12) (i := s7) (k := 1) (off := 0) (f := fun (x : List Int) => x) ra3 e14 Fld.self ti34 rfl rfl rfl rfl rfl) rfl [.tmp 63] rfl ⟨(hf 8 (mb rfl)), trivial⟩) rfl (fun _ h => lds_sl h) (fun _ => rfl)⟩, Plan.goal_run fun vs hf => ⟨wants_none rfl, OpT.conv (OpT.evs (ev' := evL [(59, (vs 4)), (64, (vs 9))]) (opT_call (args := #[(vs 4), (vs 9)]) (first := #[]) (captured := #[]) en104 rfl rfl rfl (c_s_l2Cmp x11 x12 _ e15 (vs 4) (vs 9) (show (rSlice 3 rInt).rd I [(vs 4)] x11 from (hf 4 (mb rfl))) (show (rSlice 3 rInt).rd I [(vs 9)] x12 from (hf 9 (mb rfl))))) rfl [.func 104, .tmp 59, .tmp 64] rfl ⟨rfl, rfl, rfl, trivial⟩) rfl (fun _ h => h) (fun _ => rfl)⟩, Plan.goal_run fun vs hf => ⟨wants_none rfl, OpT.conv (OpT.evs (ev' := evL [(65, .int .i64 r9)]) (opT_cmp (k := .i64) (m := r9) (n := 0) (c := r9 != 0) rfl rfl rfl rfl rfl) rfl [.tmp 65, .const (.int .i64 0)] rfl ⟨(hf 10 (mb rfl)), rfl, trivial⟩) rfl (fun _ h => Eq.trans h rfl) (fun _ => rfl)⟩, trivial⟩
                intro vs aq83 wq83 hf haq83 hsq83
                clear haq82 hsq82
                replace haq83 := haq83.pick' (L' := [(2, .pointer (some ⟨g1, 0, none⟩)), (3, .pointer (some ⟨g2, 0, none⟩)), (6, .int .i64 s7), (66, .bool (r9 != 0))]) ⟨rfl, rfl, rfl, (congrArg some (show _ = _ from (hf 11 (Nat.le_of_ble_eq_true rfl)))), trivial⟩
                replace hsq83 : St I w0 wq83 [Ch.blk g1 [.int .i64 p0.1, va0, va1] 27, Ch.blk g2 [.int .i64 p1.1, va2, va3] 27, F] := hsq83
                clear hf vs
                refine nrm ?_
                rcases two (r9 != 0) with hb15 | hb15
                · replace hm := ifFe hb15 hm
                  refine cnd_false (b := r9 != 0) haq83 rfl rfl hb15 ?_
                  refine wp_skip ?_
                  refine nrmB ?_
                  refine nrm ?_
                  refine wp_region_lit ?_
                  refine seq_op0 haq83 hsq83 (opT_move (v := .int .i64 s7) rfl rfl) rfl rfl ?_
                  rintro u aq84 wq84 hf haq84 hsq84
                  obtain rfl := Eq.symm hf
                  clear haq83 hsq83 aq83 wq83
                  refine seq_op0 haq84 hsq84 (opT_add (m := s7) (n := 1) rfl rfl rfl) rfl rfl ?_
                  rintro u aq85 wq85 hf haq85 hsq85
                  obtain rfl := Eq.symm hf
                  clear haq84 hsq84 aq84 wq84
                  refine seq_op0 haq85 hsq85 (opT_assign (v := .int .i64 (IntKind.i64.wrap (s7 + 1))) rfl rfl) rfl rfl ?_
                  rintro u aq86 wq86 hf haq86 hsq86
                  obtain rfl := Eq.symm hf
                  clear haq85 hsq85 aq85 wq85
                  refine wpList_nil ?_
                  replace haq86 := haq86.pick' (L' := [(2, .pointer (some ⟨g1, 0, none⟩)), (3, .pointer (some ⟨g2, 0, none⟩)), (6, .int .i64 (IntKind.i64.wrap (s7 + 1)))]) ⟨rfl, rfl, rfl, trivial⟩
                  refine nrm ?_
                  exact ⟨_, (Option.some.inj hm).symm, ⟨haq86.pick' ⟨rfl, rfl, rfl, trivial⟩, St.sel hsq86 3 [0, 1, 2] rfl rfl⟩⟩
                · replace hm := ifTe hb15 hm
                  refine cnd_true (b := r9 != 0) haq83 rfl rfl hb15 ?_
                  refine wp_seq ?_
                  refine wp_region_lit ?_
                  refine seq_op0 haq83 hsq83 (opT_assign (v := .bool false) rfl rfl) rfl rfl ?_
                  rintro u aq87 wq87 hf haq87 hsq87
                  obtain rfl := Eq.symm hf
                  clear haq83 hsq83 aq83 wq83
                  refine wpList_nil ?_
                  replace haq87 := haq87.pick' (L' := [(4, .bool false)]) ⟨rfl, trivial⟩
                  refine nrm ?_
                  refine wp_ret ?_
                  refine blkR ?_
                  refine thenR ?_
                  refine thenR ?_
                  refine blkR ?_
                  refine thenR ?_
                  refine thenR ?_
                  replace hm := loopRet hm hf2 hc2
                  obtain rfl := Option.some.inj hm
                  exact ret_1 haq87 rfl (res_tmp haq87 rfl) ⟨_, rfl, rfl, _, Hp.le.rfl, St.sel (hsq87) 3 [2] rfl rfl⟩
          · rintro aq88 wq88 ⟨s8, ho2, haq88, hsq88⟩
            replace hm := loopOut ho2 hc2
            clear ho2 hc2 hl2
            refine nrm ?_
            refine wp_seq ?_
            refine wp_region_lit ?_
            refine seq_op0 haq88 hsq88 (opT_assign (v := .bool true) rfl rfl) rfl rfl ?_
            rintro u aq89 wq89 hf haq89 hsq89
            obtain rfl := Eq.symm hf
            clear haq88 hsq88 aq88 wq88
            refine wpList_nil ?_
            replace haq89 := haq89.pick' (L' := [(4, .bool true)]) ⟨rfl, trivial⟩
            refine nrm ?_
            refine wp_ret ?_
            obtain rfl := Option.some.inj hm
            exact ret_1 haq89 rfl (res_tmp haq89 rfl) ⟨_, rfl, rfl, _, Hp.le.rfl, St.sel (hsq89) 1 [0] rfl rfl⟩
      · replace hm := ifTe hb3 hm
        refine cnd_true (b := (p0.2.2.length : Int) != (p1.2.2.length : Int)) haq26 rfl rfl hb3 ?_
        refine wp_seq ?_
        refine wp_region_lit ?_
        refine seq_op0 haq26 hsq26 (opT_assign (v := .bool false) rfl rfl) rfl rfl ?_
        rintro u aq90 wq90 hf haq90 hsq90
        obtain rfl := Eq.symm hf
        clear haq26 hsq26 aq26 wq26
        refine wpList_nil ?_
        replace haq90 := haq90.pick' (L' := [(4, .bool false)]) ⟨rfl, trivial⟩
        refine nrm ?_
        refine wp_ret ?_
        refine thenR ?_
        obtain rfl := Option.some.inj hm
        exact ret_1 haq90 rfl (res_tmp haq90 rfl) ⟨_, rfl, rfl, _, Hp.le.rfl, St.sel (hsq90) 3 [2] rfl rfl⟩
    · replace hm := ifTe hb2 hm
      refine seq_skip (g := 14) (d := 21) (want := false) (b := (p0.2.1.length : Int) != (p1.2.1.length : Int)) haq18 hsq18 rfl rfl rfl hb2 rfl ?_
      intro aq91 haq91
      refine seq_skip (g := 14) (d := 21) (want := false) (b := (p0.2.1.length : Int) != (p1.2.1.length : Int)) haq91 hsq18 rfl rfl rfl hb2 rfl ?_
      intro aq92 haq92
      refine seq_skip (g := 14) (d := 21) (want := false) (b := (p0.2.1.length : Int) != (p1.2.1.length : Int)) haq92 hsq18 rfl rfl rfl hb2 rfl ?_
      intro aq93 haq93
      refine seq_skip (g := 14) (d := 21) (want := false) (b := (p0.2.1.length : Int) != (p1.2.1.length : Int)) haq93 hsq18 rfl rfl rfl hb2 rfl ?_
      intro aq94 haq94
      refine seq_skip (g := 14) (d := 21) (want := false) (b := (p0.2.1.length : Int) != (p1.2.1.length : Int)) haq94 hsq18 rfl rfl rfl hb2 rfl ?_
      intro aq95 haq95
      refine seq_skip (g := 14) (d := 21) (want := false) (b := (p0.2.1.length : Int) != (p1.2.1.length : Int)) haq95 hsq18 rfl rfl rfl hb2 rfl ?_
      intro aq96 haq96
      refine seq_skip (g := 14) (d := 21) (want := false) (b := (p0.2.1.length : Int) != (p1.2.1.length : Int)) haq96 hsq18 rfl rfl rfl hb2 rfl ?_
      intro aq97 haq97
      refine seq_op0 haq97 hsq18 (opT_pick (b := (p0.2.1.length : Int) != (p1.2.1.length : Int)) (v := .bool true) rfl rfl (ifT hb2)) rfl rfl ?_
      rintro u aq98 wq98 hf haq98 hsq98
      obtain rfl := Eq.symm hf
      clear haq97 hsq18 aq97 wq18
      refine wpList_nil ?_
      replace haq98 := haq98.pick' (L' := [(2, .pointer (some ⟨g1, 0, none⟩)), (3, .pointer (some ⟨g2, 0, none⟩)), (29, .bool true)]) ⟨rfl, rfl, rfl, trivial⟩
      refine nrm ?_
      refine cnd_true (b := true) haq98 rfl rfl rfl ?_
      refine wp_seq ?_
      refine wp_region_lit ?_
      refine seq_op0 haq98 hsq98 (opT_assign (v := .bool false) rfl rfl) rfl rfl ?_
      rintro u aq99 wq99 hf haq99 hsq99
      obtain rfl := Eq.symm hf
      clear haq98 hsq98 aq98 wq98
      refine wpList_nil ?_
      replace haq99 := haq99.pick' (L' := [(4, .bool false)]) ⟨rfl, trivial⟩
      refine nrm ?_
      refine wp_ret ?_
      refine thenR ?_
      obtain rfl := Option.some.inj hm
      exact ret_1 haq99 rfl (res_tmp haq99 rfl) ⟨_, rfl, rfl, _, Hp.le.rfl, St.sel (hsq99) 3 [2] rfl rfl⟩
  · replace hm := ifTe hb1 hm
    refine seq_skip (g := 5) (d := 12) (want := false) (b := p0.1 != p1.1) haq9 hsq9 rfl rfl rfl hb1 rfl ?_
    intro aq100 haq100
    refine seq_skip (g := 5) (d := 12) (want := false) (b := p0.1 != p1.1) haq100 hsq9 rfl rfl rfl hb1 rfl ?_
    intro aq101 haq101
    refine seq_skip (g := 5) (d := 12) (want := false) (b := p0.1 != p1.1) haq101 hsq9 rfl rfl rfl hb1 rfl ?_
    intro aq102 haq102
    refine seq_skip (g := 5) (d := 12) (want := false) (b := p0.1 != p1.1) haq102 hsq9 rfl rfl rfl hb1 rfl ?_
    intro aq103 haq103
    refine seq_skip (g := 5) (d := 12) (want := false) (b := p0.1 != p1.1) haq103 hsq9 rfl rfl rfl hb1 rfl ?_
    intro aq104 haq104
    refine seq_skip (g := 5) (d := 12) (want := false) (b := p0.1 != p1.1) haq104 hsq9 rfl rfl rfl hb1 rfl ?_
    intro aq105 haq105
    refine seq_skip (g := 5) (d := 12) (want := false) (b := p0.1 != p1.1) haq105 hsq9 rfl rfl rfl hb1 rfl ?_
    intro aq106 haq106
    refine seq_op0 haq106 hsq9 (opT_pick (b := p0.1 != p1.1) (v := .bool true) rfl rfl (ifT hb1)) rfl rfl ?_
    rintro u aq107 wq107 hf haq107 hsq107
    obtain rfl := Eq.symm hf
    clear haq106 hsq9 aq106 wq9
    refine seq_op0 haq107 hsq107 (opT_move (v := .bool true) rfl rfl) rfl rfl ?_
    rintro u aq108 wq108 hf haq108 hsq108
    obtain rfl := Eq.symm hf
    clear haq107 hsq107 aq107 wq107
    refine seq_skip (g := 14) (d := 21) (want := false) (b := true) haq108 hsq108 rfl rfl rfl rfl rfl ?_
    intro aq109 haq109
    refine seq_skip (g := 14) (d := 21) (want := false) (b := true) haq109 hsq108 rfl rfl rfl rfl rfl ?_
    intro aq110 haq110
    refine seq_skip (g := 14) (d := 21) (want := false) (b := true) haq110 hsq108 rfl rfl rfl rfl rfl ?_
    intro aq111 haq111
    refine seq_skip (g := 14) (d := 21) (want := false) (b := true) haq111 hsq108 rfl rfl rfl rfl rfl ?_
    intro aq112 haq112
    refine seq_skip (g := 14) (d := 21) (want := false) (b := true) haq112 hsq108 rfl rfl rfl rfl rfl ?_
    intro aq113 haq113
    refine seq_skip (g := 14) (d := 21) (want := false) (b := true) haq113 hsq108 rfl rfl rfl rfl rfl ?_
    intro aq114 haq114
    refine seq_skip (g := 14) (d := 21) (want := false) (b := true) haq114 hsq108 rfl rfl rfl rfl rfl ?_
    intro aq115 haq115
    refine seq_op0 haq115 hsq108 (opT_pick (b := true) (v := .bool true) rfl rfl (ifT rfl)) rfl rfl ?_
    rintro u aq116 wq116 hf haq116 hsq116
    obtain rfl := Eq.symm hf
    clear haq115 hsq108 aq115 wq108
    refine wpList_nil ?_
    replace haq116 := haq116.pick' (L' := [(2, .pointer (some ⟨g1, 0, none⟩)), (3, .pointer (some ⟨g2, 0, none⟩)), (29, .bool true)]) ⟨rfl, rfl, rfl, trivial⟩
    refine nrm ?_
    refine cnd_true (b := true) haq116 rfl rfl rfl ?_
    refine wp_seq ?_
    refine wp_region_lit ?_
    refine seq_op0 haq116 hsq116 (opT_assign (v := .bool false) rfl rfl) rfl rfl ?_
    rintro u aq117 wq117 hf haq117 hsq117
    obtain rfl := Eq.symm hf
    clear haq116 hsq116 aq116 wq116
    refine wpList_nil ?_
    replace haq117 := haq117.pick' (L' := [(4, .bool false)]) ⟨rfl, trivial⟩
    refine nrm ?_
    refine wp_ret ?_
    refine thenR ?_
    obtain rfl := Option.some.inj hm
    exact ret_1 haq117 rfl (res_tmp haq117 rfl) ⟨_, rfl, rfl, _, Hp.le.rfl, St.sel (hsq117) 3 [2] rfl rfl⟩
set_option maxHeartbeats 8000000 in
theorem c_s_l11Fits (p0a : Int × (List Bool) × (List (List Int))) (r : Bool) (hm : m_s_l11Fits p0a = some r) {I : Hp} {w0 : World} (va0 : Value) (va1 : Value) (ra0 : (rSlice 4 rBool).rd I [va0] p0a.2.1) (ra1 : (rSlice 34 (rSlice 3 rInt)).rd I [va1] p0a.2.2) : Con Try.prog 92 #[.agg #[.int .i64 p0a.1, va0, va1]] I w0 [] (fun v => v = .bool r) (fun v => []) := by
  refine con_of_wp (n := 50) [(0, .agg #[.int .i64 p0a.1, va0, va1])] Try.func92 rfl rfl (Nat.le_of_ble_eq_true rfl) (args_all ⟨rfl, trivial⟩) (fun F w a ha hs => ?_) (fun v => trivial)
  unfold m_s_l11Fits at hm
  refine wp_seq ?_
  refine wp_region_lit ?_
  refine seq_op ha hs rfl (opT_box (u := .agg #[.int .i64 p0a.1, va0, va1]) (l := [.int .i64 p0a.1, va0, va1]) rfl rfl rfl) (List.Perm.refl _) rfl ?_
  rintro _ aq1 wq1 ⟨g1, rfl⟩ haq1 (hsq1 : St I w0 wq1 [Ch.blk g1 [.int .i64 p0a.1, va0, va1] 27, F])
  clear ha hs a w
  refine seq_op0 haq1 hsq1 (opT_assign (v := .bool false) rfl rfl) rfl rfl ?_
  rintro u aq2 wq2 hf haq2 hsq2
  obtain rfl := Eq.symm hf
  clear haq1 hsq1 aq1 wq1
  refine wpList_nil ?_
  replace haq2 := haq2.pick' (L' := [(1, .pointer (some ⟨g1, 0, none⟩))]) ⟨rfl, trivial⟩
  refine nrm ?_
  refine wp_seq ?_
  refine wp_region_lit ?_
  refine seq_op0 haq2 hsq2 (opT_field_addr (g := g1) (b := 0) tf27_1 rfl rfl) rfl rfl ?_
  rintro u aq3 wq3 hf haq3 hsq3
  obtain rfl := Eq.symm hf
  clear haq2 hsq2 aq2 wq2
  refine seq_op haq3 hsq3 rfl (opT_load_blk (g := g1) (off := 1) (E := 27) (l := [.int .i64 p0a.1, va0, va1]) (d := [va0]) (u := va0) ti22 rfl rfl rfl rfl rfl rfl) (perm_front (i := 0) rfl) rfl ?_
  rintro u aq4 wq4 hf haq4 (hsq4 : St I w0 wq4 [Ch.blk g1 [.int .i64 p0a.1, va0, va1] 27, F])
  obtain rfl := Eq.symm hf
  clear haq3 hsq3 aq3 wq3
  refine seq_op0 haq4 hsq4 (opT_len_hd (v := va0) (n := p0a.2.1.length) (Hd.of_rd ra0) Try.underlying22 rfl rfl) rfl rfl ?_
  rintro u aq5 wq5 hf haq5 hsq5
  obtain rfl := Eq.symm hf
  clear haq4 hsq4 aq4 wq4
  refine seq_op0 haq5 hsq5 (opT_assign (v := .int .i64 (p0a.2.1.length : Int)) rfl rfl) rfl rfl ?_
  rintro u aq6 wq6 hf haq6 hsq6
  obtain rfl := Eq.symm hf
  clear haq5 hsq5 aq5 wq5
  refine wpList_nil ?_
  replace haq6 := haq6.pick' (L' := [(1, .pointer (some ⟨g1, 0, none⟩)), (3, .int .i64 (p0a.2.1.length : Int))]) ⟨rfl, rfl, trivial⟩
  refine nrm ?_
  refine wp_seq ?_
  refine wp_seq ?_
  refine wp_region_lit ?_
  refine seq_op0 haq6 hsq6 (opT_field_addr (g := g1) (b := 0) tf27_0 rfl rfl) rfl rfl ?_
  rintro u aq7 wq7 hf haq7 hsq7
  obtain rfl := Eq.symm hf
  clear haq6 hsq6 aq6 wq6
  refine seq_op haq7 hsq7 rfl (opT_load_blk (g := g1) (off := 0) (E := 27) (l := [.int .i64 p0a.1, va0, va1]) (d := [.int .i64 p0a.1]) (u := .int .i64 p0a.1) ti3 rfl rfl rfl rfl rfl rfl) (perm_front (i := 0) rfl) rfl ?_
  rintro u aq8 wq8 hf haq8 (hsq8 : St I w0 wq8 [Ch.blk g1 [.int .i64 p0a.1, va0, va1] 27, F])
  obtain rfl := Eq.symm hf
  clear haq7 hsq7 aq7 wq7
  refine seq_op0 haq8 hsq8 (opT_move (v := .int .i64 (p0a.2.1.length : Int)) rfl rfl) rfl rfl ?_
  rintro u aq9 wq9 hf haq9 hsq9
  obtain rfl := Eq.symm hf
  clear haq8 hsq8 aq8 wq8
  refine seq_op0 haq9 hsq9 (opT_sub (m := (p0a.2.1.length : Int)) (n := 1) rfl rfl rfl) rfl rfl ?_
  rintro u aq10 wq10 hf haq10 hsq10
  obtain rfl := Eq.symm hf
  clear haq9 hsq9 aq9 wq9
  obtain ⟨r1, e1, hm⟩ := bind_some hm
  refine seq_op0 haq10 hsq10 (opT_call (args := #[.int .i64 p0a.1, .int .i64 0, .int .i64 (IntKind.i64.wrap ((p0a.2.1.length : Int) - 1))]) (first := #[]) (captured := #[]) en146 rfl rfl rfl (c_s_l1In p0a.1 0 (IntKind.i64.wrap ((p0a.2.1.length : Int) - 1)) _ e1  )) rfl rfl ?_
  rintro u aq11 wq11 hf haq11 hsq11
  obtain rfl := Eq.symm hf
  clear haq10 hsq10 aq10 wq10
  refine seq_op0 haq11 hsq11 (opT_not (b := r1) rfl rfl) rfl rfl ?_
  rintro u aq12 wq12 hf haq12 hsq12
  obtain rfl := Eq.symm hf
  clear haq11 hsq11 aq11 wq11
  refine seq_op0 haq12 hsq12 (opT_move (v := .bool (!r1)) rfl rfl) rfl rfl ?_
  rintro u aq13 wq13 hf haq13 hsq13
  obtain rfl := Eq.symm hf
  clear haq12 hsq12 aq12 wq12
  rcases two (r1) with hb1 | hb1
  · replace hm := ifFe hb1 hm
    refine seq_skip (g := 6) (d := 15) (want := false) (b := !r1) haq13 hsq13 rfl rfl rfl (notT hb1) rfl ?_
    intro aq14 haq14
    refine seq_skip (g := 6) (d := 15) (want := false) (b := !r1) haq14 hsq13 rfl rfl rfl (notT hb1) rfl ?_
    intro aq15 haq15
    refine seq_skip (g := 6) (d := 15) (want := false) (b := !r1) haq15 hsq13 rfl rfl rfl (notT hb1) rfl ?_
    intro aq16 haq16
    refine seq_skip (g := 6) (d := 15) (want := false) (b := !r1) haq16 hsq13 rfl rfl rfl (notT hb1) rfl ?_
    intro aq17 haq17
    refine seq_skip (g := 6) (d := 15) (want := false) (b := !r1) haq17 hsq13 rfl rfl rfl (notT hb1) rfl ?_
    intro aq18 haq18
    refine seq_op0 haq18 hsq13 (opT_pick (b := !r1) (v := .bool true) rfl rfl (ifT (notT hb1))) rfl rfl ?_
    rintro u aq19 wq19 hf haq19 hsq19
    obtain rfl := Eq.symm hf
    clear haq18 hsq13 aq18 wq13
    refine wpList_nil ?_
    replace haq19 := haq19.pick' (L' := [(1, .pointer (some ⟨g1, 0, none⟩)), (3, .int .i64 (p0a.2.1.length : Int)), (21, .bool true)]) ⟨rfl, rfl, rfl, trivial⟩
    refine nrm ?_
    refine cnd_true (b := true) haq19 rfl rfl rfl ?_
    refine wp_seq ?_
    refine wp_region_lit ?_
    refine seq_op0 haq19 hsq19 (opT_assign (v := .bool false) rfl rfl) rfl rfl ?_
    rintro u aq20 wq20 hf haq20 hsq20
    obtain rfl := Eq.symm hf
    clear haq19 hsq19 aq19 wq19
    refine wpList_nil ?_
    replace haq20 := haq20.pick' (L' := [(2, .bool false)]) ⟨rfl, trivial⟩
    refine nrm ?_
    refine wp_ret ?_
    refine thenR ?_
    obtain rfl := Option.some.inj hm
    exact ret_1 haq20 rfl (res_tmp haq20 rfl) ⟨_, rfl, rfl, _, Hp.le.rfl, St.sel (hsq20) 2 [1] rfl rfl⟩
  · replace hm := ifTe hb1 hm
    refine seq_op_g0 (g := 6) (d := 15) (want := false) (b := !r1) haq13 hsq13 rfl rfl rfl (notF hb1) (opT_field_addr (g := g1) (b := 0) tf27_2 rfl rfl) rfl ?_
    rintro u aq21 wq21 hf haq21 hsq21
    obtain rfl := Eq.symm hf
    clear haq13 hsq13 aq13 wq13
    refine seq_op_g (g := 6) (d := 15) (want := false) (b := !r1) haq21 hsq21 rfl rfl rfl (notF hb1) (opT_load_blk (g := g1) (off := 2) (E := 27) (l := [.int .i64 p0a.1, va0, va1]) (d := [va1]) (u := va1) ti23 rfl rfl rfl rfl rfl rfl) (perm_front (i := 0) rfl) rfl ?_
    rintro u aq22 wq22 hf haq22 (hsq22 : St I w0 wq22 [Ch.blk g1 [.int .i64 p0a.1, va0, va1] 27, F])
    obtain rfl := Eq.symm hf
    clear haq21 hsq21 aq21 wq21
    refine seq_op_g0 (g := 6) (d := 15) (want := false) (b := !r1) haq22 hsq22 rfl rfl rfl (notF hb1) (opT_len_hd (v := va1) (n := p0a.2.2.length) (Hd.of_rd ra1) Try.underlying23 rfl rfl) rfl ?_
    rintro u aq23 wq23 hf haq23 hsq23
    obtain rfl := Eq.symm hf
    clear haq22 hsq22 aq22 wq22
    refine seq_op_g0 (g := 6) (d := 15) (want := false) (b := !r1) haq23 hsq23 rfl rfl rfl (notF hb1) (opT_move (v := .int .i64 (p0a.2.1.length : Int)) rfl rfl) rfl ?_
    rintro u aq24 wq24 hf haq24 hsq24
    obtain rfl := Eq.symm hf
    clear haq23 hsq23 aq23 wq23
    refine seq_op_g0 (g := 6) (d := 15) (want := false) (b := !r1) haq24 hsq24 rfl rfl rfl (notF hb1) (opT_cmp (k := .i64) (m := (p0a.2.2.length : Int)) (n := (p0a.2.1.length : Int)) (c := (p0a.2.2.length : Int) != (p0a.2.1.length : Int)) rfl rfl rfl rfl rfl) rfl ?_
    rintro u aq25 wq25 hf haq25 hsq25
    obtain rfl := Eq.symm hf
    clear haq24 hsq24 aq24 wq24
    refine seq_op0 haq25 hsq25 (opT_pick (b := !r1) (v := .bool ((p0a.2.2.length : Int) != (p0a.2.1.length : Int))) rfl rfl (ifF (notF hb1))) rfl rfl ?_
    rintro u aq26 wq26 hf haq26 hsq26
    obtain rfl := Eq.symm hf
    clear haq25 hsq25 aq25 wq25
    refine wpList_nil ?_
    replace haq26 := haq26.pick' (L' := [(1, .pointer (some ⟨g1, 0, none⟩)), (3, .int .i64 (p0a.2.1.length : Int)), (21, .bool ((p0a.2.2.length : Int) != (p0a.2.1.length : Int)))]) ⟨rfl, rfl, rfl, trivial⟩
    refine nrm ?_
    rcases two ((p0a.2.2.length : Int) != (p0a.2.1.length : Int)) with hb2 | hb2
    · replace hm := ifFe hb2 hm
      refine cnd_false (b := (p0a.2.2.length : Int) != (p0a.2.1.length : Int)) haq26 rfl rfl hb2 ?_
      refine wp_skip ?_
      refine nrm ?_
      refine wp_seq ?_
      refine wp_seq ?_
      refine wp_region_lit ?_
      refine seq_op0 haq26 hsq26 (opT_assign (v := .int .i64 0) rfl rfl) rfl rfl ?_
      rintro u aq27 wq27 hf haq27 hsq27
      obtain rfl := Eq.symm hf
      clear haq26 hsq26 aq26 wq26
      refine wpList_nil ?_
      replace haq27 := haq27.pick' (L' := [(1, .pointer (some ⟨g1, 0, none⟩)), (3, .int .i64 (p0a.2.1.length : Int)), (4, .int .i64 0)]) ⟨rfl, rfl, rfl, trivial⟩
      refine nrm ?_
      obtain ⟨o5, hl3, hc3⟩ := bindL_some hm
      refine wp_cut (fun a w => ∃ s12 : Int, o5 = .brk s12 ∧ Agr 50 a [] ∧ St I w0 w [F]) ?_ ?_
      · refine wp_block (wp_loopM (R := Bool) (S := Int) (fun s11 a w => Agr 50 a [(1, .pointer (some ⟨g1, 0, none⟩)), (3, .int .i64 (p0a.2.1.length : Int)), (4, .int .i64 s11)] ∧ St I w0 w [Ch.blk g1 [.int .i64 p0a.1, va0, va1] 27, F]) hl3 ?_ ?_)
        · exact ⟨haq27.pick' ⟨rfl, rfl, rfl, trivial⟩, St.sel hsq27 2 [0, 1] rfl rfl⟩
        · rintro s11 o6 hm hf3 aq170 wq170 ⟨haq170, hsq170⟩
          unfold m_s_l11Fits_l0 at hm
          refine wp_seq ?_
          refine wp_seq ?_
          refine wp_region_lit ?_
          refine seq_op0 haq170 hsq170 (opT_move (v := .int .i64 s11) rfl rfl) rfl rfl ?_
          rintro u aq171 wq171 hf haq171 hsq171
          obtain rfl := Eq.symm hf
          clear haq170 hsq170 aq170 wq170
          refine seq_op0 haq171 hsq171 (opT_move (v := .int .i64 (p0a.2.1.length : Int)) rfl rfl) rfl rfl ?_
          rintro u aq172 wq172 hf haq172 hsq172
          obtain rfl := Eq.symm hf
          clear haq171 hsq171 aq171 wq171
          refine seq_op0 haq172 hsq172 (opT_cmp (k := .i64) (m := s11) (n := (p0a.2.1.length : Int)) (c := decide (s11 < (p0a.2.1.length : Int))) rfl rfl rfl rfl rfl) rfl rfl ?_
          rintro u aq173 wq173 hf haq173 hsq173
          obtain rfl := Eq.symm hf
          clear haq172 hsq172 aq172 wq172
          refine wpList_nil ?_
          replace haq173 := haq173.pick' (L' := [(1, .pointer (some ⟨g1, 0, none⟩)), (3, .int .i64 (p0a.2.1.length : Int)), (4, .int .i64 s11), (24, .bool (decide (s11 < (p0a.2.1.length : Int))))]) ⟨rfl, rfl, rfl, rfl, trivial⟩
          refine nrm ?_
          rcases two (decide (s11 < (p0a.2.1.length : Int))) with hb19 | hb19
          · replace hm := ifFe hb19 hm
            refine cnd_false (b := decide (s11 < (p0a.2.1.length : Int))) haq173 rfl rfl hb19 ?_
            refine wp_exit ?_
            refine thenX ?_
            refine thenX ?_
            refine ex_in ?_
            refine nrm ?_
            exact ⟨_, loopBrk hm hf3, ⟨haq173.pick' trivial, St.sel hsq173 2 [1] rfl rfl⟩⟩
          · replace hm := ifTe hb19 hm
            refine cnd_true (b := decide (s11 < (p0a.2.1.length : Int))) haq173 rfl rfl hb19 ?_
            refine wp_skip ?_
            refine nrm ?_
            refine wp_seq ?_
            refine wp_block ?_
            refine wp_seq ?_
            refine wp_seq ?_
            refine wp_region_lit ?_
            refine seq_op0 haq173 hsq173 (opT_field_addr (g := g1) (b := 0) tf27_2 rfl rfl) rfl rfl ?_
            rintro u aq174 wq174 hf haq174 hsq174
            obtain rfl := Eq.symm hf
            clear haq173 hsq173 aq173 wq173
            refine seq_op haq174 hsq174 rfl (opT_load_blk (g := g1) (off := 2) (E := 27) (l := [.int .i64 p0a.1, va0, va1]) (d := [va1]) (u := va1) ti23 rfl rfl rfl rfl rfl rfl) (perm_front (i := 0) rfl) rfl ?_
            rintro u aq175 wq175 hf haq175 (hsq175 : St I w0 wq175 [Ch.blk g1 [.int .i64 p0a.1, va0, va1] 27, F])
            obtain rfl := Eq.symm hf
            clear haq174 hsq174 aq174 wq174
            refine seq_op0 haq175 hsq175 (opT_move (v := .int .i64 s11) rfl rfl) rfl rfl ?_
            rintro u aq176 wq176 hf haq176 hsq176
            obtain rfl := Eq.symm hf
            clear haq175 hsq175 aq175 wq175
            obtain ⟨x15, e22, hm⟩ := bind_some hm
            refine seq_op0 haq176 hsq176 (opT_index_hd (xs := p0a.2.2) (i := s11) (n := 1) (Hd.of_rd ra1) Try.underlying23 ti34 rfl rfl rfl (getI_in e22)) rfl rfl ?_
            rintro u aq177 wq177 hf haq177 hsq177
            obtain rfl := Eq.symm hf
            clear haq176 hsq176 aq176 wq176
            refine seq_op0 haq177 hsq177 (opT_load_el (S := rSlice 3 rInt) (xs := p0a.2.2) (a := x15) (i := s11) (k := 1) (off := 0) (f := fun (x : List Int) => x) ra1 e22 Fld.self ti34 rfl rfl rfl rfl rfl) rfl rfl ?_
            rintro v9 aq178 wq178 hf haq178 hsq178
            have r16 := lds_sl hf
            clear hf
            clear haq177 hsq177 aq177 wq177
            refine seq_op0 haq178 hsq178 (opT_len_hd (v := v9) (n := x15.length) (Hd.of_rd r16) Try.underlying34 rfl rfl) rfl rfl ?_
            rintro u aq179 wq179 hf haq179 hsq179
            obtain rfl := Eq.symm hf
            clear haq178 hsq178 aq178 wq178
            refine seq_op0 haq179 hsq179 (opT_cmp (k := .i64) (m := (x15.length : Int)) (n := 9) (c := (x15.length : Int) != 9) rfl rfl rfl rfl rfl) rfl rfl ?_
            rintro u aq180 wq180 hf haq180 hsq180
            obtain rfl := Eq.symm hf
            clear haq179 hsq179 aq179 wq179
            refine wpList_nil ?_
            replace haq180 := haq180.pick' (L' := [(1, .pointer (some ⟨g1, 0, none⟩)), (3, .int .i64 (p0a.2.1.length : Int)), (4, .int .i64 s11), (33, .bool ((x15.length : Int) != 9))]) ⟨rfl, rfl, rfl, rfl, trivial⟩
            refine nrm ?_
            rcases two ((x15.length : Int) != 9) with hb20 | hb20
            · replace hm := ifFe hb20 hm
              refine cnd_false (b := (x15.length : Int) != 9) haq180 rfl rfl hb20 ?_
              refine wp_skip ?_
              refine nrm ?_
              refine wp_seq ?_
              refine wp_region_lit ?_
              refine seq_op0 haq180 hsq180 (opT_assign (v := .int .i64 0) rfl rfl) rfl rfl ?_
              rintro u aq181 wq181 hf haq181 hsq181
              obtain rfl := Eq.symm hf
              clear haq180 hsq180 aq180 wq180
              refine wpList_nil ?_
              replace haq181 := haq181.pick' (L' := [(1, .pointer (some ⟨g1, 0, none⟩)), (3, .int .i64 (p0a.2.1.length : Int)), (4, .int .i64 s11), (5, .int .i64 0)]) ⟨rfl, rfl, rfl, rfl, trivial⟩
              refine nrm ?_
              obtain ⟨o7, hl4, hc4⟩ := bindL_some hm
              refine wp_cut (fun a w => ∃ s16 : Int, o7 = .brk s16 ∧ Agr 50 a [(1, .pointer (some ⟨g1, 0, none⟩)), (3, .int .i64 (p0a.2.1.length : Int)), (4, .int .i64 s11)] ∧ St I w0 w [Ch.blk g1 [.int .i64 p0a.1, va0, va1] 27, F]) ?_ ?_
              · refine wp_block (wp_loopM (R := Bool) (S := Int) (fun s15 a w => Agr 50 a [(1, .pointer (some ⟨g1, 0, none⟩)), (3, .int .i64 (p0a.2.1.length : Int)), (4, .int .i64 s11), (5, .int .i64 s15)] ∧ St I w0 w [Ch.blk g1 [.int .i64 p0a.1, va0, va1] 27, F]) hl4 ?_ ?_)
                · exact ⟨haq181.pick' ⟨rfl, rfl, rfl, rfl, trivial⟩, St.sel hsq181 2 [0, 1] rfl rfl⟩
                · rintro s15 o8 hm hf4 aq218 wq218 ⟨haq218, hsq218⟩
                  unfold m_s_l11Fits_l1 at hm
                  refine wp_seq ?_
                  refine wp_seq ?_
                  refine wp_region_lit ?_
                  refine seq_op0 haq218 hsq218 (opT_move (v := .int .i64 s15) rfl rfl) rfl rfl ?_
                  rintro u aq219 wq219 hf haq219 hsq219
                  obtain rfl := Eq.symm hf
                  clear haq218 hsq218 aq218 wq218
                  refine seq_op0 haq219 hsq219 (opT_cmp (k := .i64) (m := s15) (n := 9) (c := decide (s15 < 9)) rfl rfl rfl rfl rfl) rfl rfl ?_
                  rintro u aq220 wq220 hf haq220 hsq220
                  obtain rfl := Eq.symm hf
                  clear haq219 hsq219 aq219 wq219
                  refine wpList_nil ?_
                  replace haq220 := haq220.pick' (L' := [(1, .pointer (some ⟨g1, 0, none⟩)), (3, .int .i64 (p0a.2.1.length : Int)), (4, .int .i64 s11), (5, .int .i64 s15), (35, .bool (decide (s15 < 9)))]) ⟨rfl, rfl, rfl, rfl, rfl, trivial⟩
                  refine nrm ?_
                  rcases two (decide (s15 < 9)) with hb25 | hb25
                  · replace hm := ifFe hb25 hm
                    refine cnd_false (b := decide (s15 < 9)) haq220 rfl rfl hb25 ?_
                    refine wp_exit ?_
                    refine thenX ?_
                    refine thenX ?_
                    refine ex_in ?_
                    refine nrm ?_
                    exact ⟨_, loopBrk hm hf4, ⟨haq220.pick' ⟨rfl, rfl, rfl, trivial⟩, St.sel hsq220 2 [0, 1] rfl rfl⟩⟩
                  · replace hm := ifTe hb25 hm
                    refine cnd_true (b := decide (s15 < 9)) haq220 rfl rfl hb25 ?_
                    refine wp_skip ?_
                    refine nrm ?_
                    refine wp_seq ?_
                    refine wp_block ?_
                    refine wp_seq ?_
                    refine wp_region_lit ?_
                    refine seq_op0 haq220 hsq220 (opT_field_addr (g := g1) (b := 0) tf27_2 rfl rfl) rfl rfl ?_
                    rintro u aq221 wq221 hf haq221 hsq221
                    obtain rfl := Eq.symm hf
                    clear haq220 hsq220 aq220 wq220
                    refine seq_op haq221 hsq221 rfl (opT_load_blk (g := g1) (off := 2) (E := 27) (l := [.int .i64 p0a.1, va0, va1]) (d := [va1]) (u := va1) ti23 rfl rfl rfl rfl rfl rfl) (perm_front (i := 0) rfl) rfl ?_
                    rintro u aq222 wq222 hf haq222 (hsq222 : St I w0 wq222 [Ch.blk g1 [.int .i64 p0a.1, va0, va1] 27, F])
                    obtain rfl := Eq.symm hf
                    clear haq221 hsq221 aq221 wq221
                    refine seq_op0 haq222 hsq222 (opT_move (v := .int .i64 s11) rfl rfl) rfl rfl ?_
                    rintro u aq223 wq223 hf haq223 hsq223
                    obtain rfl := Eq.symm hf
                    clear haq222 hsq222 aq222 wq222
                    obtain ⟨x20, e29, hm⟩ := bind_some hm
                    refine seq_op0 haq223 hsq223 (opT_index_hd (xs := p0a.2.2) (i := s11) (n := 1) (Hd.of_rd ra1) Try.underlying23 ti34 rfl rfl rfl (getI_in e29)) rfl rfl ?_
                    rintro u aq224 wq224 hf haq224 hsq224
                    obtain rfl := Eq.symm hf
                    clear haq223 hsq223 aq223 wq223
                    refine seq_op0 haq224 hsq224 (opT_load_el (S := rSlice 3 rInt) (xs := p0a.2.2) (a := x20) (i := s11) (k := 1) (off := 0) (f := fun (x : List Int) => x) ra1 e29 Fld.self ti34 rfl rfl rfl rfl rfl) rfl rfl ?_
                    rintro v12 aq225 wq225 hf haq225 hsq225
                    have r21 := lds_sl hf
                    clear hf
                    clear haq224 hsq224 aq224 wq224
                    refine seq_op0 haq225 hsq225 (opT_move (v := .int .i64 s15) rfl rfl) rfl rfl ?_
                    rintro u aq226 wq226 hf haq226 hsq226
                    obtain rfl := Eq.symm hf
                    clear haq225 hsq225 aq225 wq225
                    obtain ⟨x21, e30, hm⟩ := bind_some hm
                    refine seq_op0 haq226 hsq226 (opT_index_hd (xs := x20) (i := s15) (n := 1) (Hd.of_rd r21) Try.underlying34 ti3 rfl rfl rfl (getI_in e30)) rfl rfl ?_
                    rintro u aq227 wq227 hf haq227 hsq227
                    obtain rfl := Eq.symm hf
                    clear haq226 hsq226 aq226 wq226
                    refine seq_op0 haq227 hsq227 (opT_load_el (S := rInt) (xs := x20) (a := x21) (i := s15) (k := 1) (off := 0) (f := fun (x : Int) => x) r21 e30 Fld.self ti3 rfl rfl rfl rfl rfl) rfl rfl ?_
                    rintro u aq228 wq228 hf haq228 hsq228
                    obtain rfl := lds_one hf
                    clear haq227 hsq227 aq227 wq227
                    refine seq_op0 haq228 hsq228 (opT_move (v := .int .i64 (p0a.2.1.length : Int)) rfl rfl) rfl rfl ?_
                    rintro u aq229 wq229 hf haq229 hsq229
                    obtain rfl := Eq.symm hf
                    clear haq228 hsq228 aq228 wq228
                    refine seq_op0 haq229 hsq229 (opT_sub (m := (p0a.2.1.length : Int)) (n := 1) rfl rfl rfl) rfl rfl ?_
                    rintro u aq230 wq230 hf haq230 hsq230
                    obtain rfl := Eq.symm hf
                    clear haq229 hsq229 aq229 wq229
                    obtain ⟨r22, e31, hm⟩ := bind_some hm
                    refine seq_op0 haq230 hsq230 (opT_call (args := #[.int .i64 x21, .int .i64 (-1), .int .i64 (IntKind.i64.wrap ((p0a.2.1.length : Int) - 1))]) (first := #[]) (captured := #[]) en146 rfl rfl rfl (c_s_l1In x21 (-1) (IntKind.i64.wrap ((p0a.2.1.length : Int) - 1)) _ e31  )) rfl rfl ?_
                    rintro u aq231 wq231 hf haq231 hsq231
                    obtain rfl := Eq.symm hf
                    clear haq230 hsq230 aq230 wq230
                    refine seq_op0 haq231 hsq231 (opT_not (b := r22) rfl rfl) rfl rfl ?_
                    rintro u aq232 wq232 hf haq232 hsq232
                    obtain rfl := Eq.symm hf
                    clear haq231 hsq231 aq231 wq231
                    refine wpList_nil ?_
                    replace haq232 := haq232.pick' (L' := [(1, .pointer (some ⟨g1, 0, none⟩)), (3, .int .i64 (p0a.2.1.length : Int)), (4, .int .i64 s11), (5, .int .i64 s15), (49, .bool (!r22))]) ⟨rfl, rfl, rfl, rfl, rfl, trivial⟩
                    refine nrm ?_
                    rcases two (r22) with hb26 | hb26
                    · replace hm := ifFe hb26 hm
                      refine cnd_true (b := !r22) haq232 rfl rfl (notT hb26) ?_
                      refine wp_seq ?_
                      refine wp_region_lit ?_
                      refine seq_op0 haq232 hsq232 (opT_assign (v := .bool false) rfl rfl) rfl rfl ?_
                      rintro u aq233 wq233 hf haq233 hsq233
                      obtain rfl := Eq.symm hf
                      clear haq232 hsq232 aq232 wq232
                      refine wpList_nil ?_
                      replace haq233 := haq233.pick' (L' := [(2, .bool false)]) ⟨rfl, trivial⟩
                      refine nrm ?_
                      refine wp_ret ?_
                      refine blkR ?_
                      refine thenR ?_
                      refine thenR ?_
                      refine blkR ?_
                      refine thenR ?_
                      refine blkR ?_
                      refine thenR ?_
                      refine thenR ?_
                      refine blkR ?_
                      refine thenR ?_
                      refine thenR ?_
                      replace hm := loopRet hm hf4 hc4
                      replace hm := loopRet hm hf3 hc3
                      obtain rfl := Option.some.inj hm
                      exact ret_1 haq233 rfl (res_tmp haq233 rfl) ⟨_, rfl, rfl, _, Hp.le.rfl, St.sel (hsq233) 2 [1] rfl rfl⟩
                    · replace hm := ifTe hb26 hm
                      refine cnd_false (b := !r22) haq232 rfl rfl (notF hb26) ?_
                      refine wp_skip ?_
                      refine nrmB ?_
                      refine nrm ?_
                      refine wp_region_lit ?_
                      refine seq_op0 haq232 hsq232 (opT_move (v := .int .i64 s15) rfl rfl) rfl rfl ?_
                      rintro u aq234 wq234 hf haq234 hsq234
                      obtain rfl := Eq.symm hf
                      clear haq232 hsq232 aq232 wq232
                      refine seq_op0 haq234 hsq234 (opT_add (m := s15) (n := 1) rfl rfl rfl) rfl rfl ?_
                      rintro u aq235 wq235 hf haq235 hsq235
                      obtain rfl := Eq.symm hf
                      clear haq234 hsq234 aq234 wq234
                      refine seq_op0 haq235 hsq235 (opT_assign (v := .int .i64 (IntKind.i64.wrap (s15 + 1))) rfl rfl) rfl rfl ?_
                      rintro u aq236 wq236 hf haq236 hsq236
                      obtain rfl := Eq.symm hf
                      clear haq235 hsq235 aq235 wq235
                      refine wpList_nil ?_
                      replace haq236 := haq236.pick' (L' := [(1, .pointer (some ⟨g1, 0, none⟩)), (3, .int .i64 (p0a.2.1.length : Int)), (4, .int .i64 s11), (5, .int .i64 (IntKind.i64.wrap (s15 + 1)))]) ⟨rfl, rfl, rfl, rfl, trivial⟩
                      refine nrm ?_
                      exact ⟨_, (Option.some.inj hm).symm, ⟨haq236.pick' ⟨rfl, rfl, rfl, rfl, trivial⟩, St.sel hsq236 2 [0, 1] rfl rfl⟩⟩
              · rintro aq237 wq237 ⟨s16, ho3, haq237, hsq237⟩
                replace hm := loopOut ho3 hc4
                clear ho3 hc4 hl4
                refine nrmB ?_
                refine nrm ?_
                refine wp_region_lit ?_
                refine seq_op0 haq237 hsq237 (opT_move (v := .int .i64 s11) rfl rfl) rfl rfl ?_
                rintro u aq238 wq238 hf haq238 hsq238
                obtain rfl := Eq.symm hf
                clear haq237 hsq237 aq237 wq237
                refine seq_op0 haq238 hsq238 (opT_add (m := s11) (n := 1) rfl rfl rfl) rfl rfl ?_
                rintro u aq239 wq239 hf haq239 hsq239
                obtain rfl := Eq.symm hf
                clear haq238 hsq238 aq238 wq238
                refine seq_op0 haq239 hsq239 (opT_assign (v := .int .i64 (IntKind.i64.wrap (s11 + 1))) rfl rfl) rfl rfl ?_
                rintro u aq240 wq240 hf haq240 hsq240
                obtain rfl := Eq.symm hf
                clear haq239 hsq239 aq239 wq239
                refine wpList_nil ?_
                replace haq240 := haq240.pick' (L' := [(1, .pointer (some ⟨g1, 0, none⟩)), (3, .int .i64 (p0a.2.1.length : Int)), (4, .int .i64 (IntKind.i64.wrap (s11 + 1)))]) ⟨rfl, rfl, rfl, trivial⟩
                refine nrm ?_
                exact ⟨_, (Option.some.inj hm).symm, ⟨haq240.pick' ⟨rfl, rfl, rfl, trivial⟩, St.sel hsq240 2 [0, 1] rfl rfl⟩⟩
            · replace hm := ifTe hb20 hm
              refine cnd_true (b := (x15.length : Int) != 9) haq180 rfl rfl hb20 ?_
              refine wp_seq ?_
              refine wp_region_lit ?_
              refine seq_op0 haq180 hsq180 (opT_assign (v := .bool false) rfl rfl) rfl rfl ?_
              rintro u aq241 wq241 hf haq241 hsq241
              obtain rfl := Eq.symm hf
              clear haq180 hsq180 aq180 wq180
              refine wpList_nil ?_
              replace haq241 := haq241.pick' (L' := [(2, .bool false)]) ⟨rfl, trivial⟩
              refine nrm ?_
              refine wp_ret ?_
              refine thenR ?_
              refine blkR ?_
              refine thenR ?_
              refine thenR ?_
              refine blkR ?_
              refine thenR ?_
              refine thenR ?_
              replace hm := loopRet hm hf3 hc3
              obtain rfl := Option.some.inj hm
              exact ret_1 haq241 rfl (res_tmp haq241 rfl) ⟨_, rfl, rfl, _, Hp.le.rfl, St.sel (hsq241) 2 [1] rfl rfl⟩
      · rintro aq242 wq242 ⟨s12, ho4, haq242, hsq242⟩
        replace hm := loopOut ho4 hc3
        clear ho4 hc3 hl3
        refine nrm ?_
        refine wp_seq ?_
        refine wp_region_lit ?_
        refine seq_op0 haq242 hsq242 (opT_assign (v := .bool true) rfl rfl) rfl rfl ?_
        rintro u aq243 wq243 hf haq243 hsq243
        obtain rfl := Eq.symm hf
        clear haq242 hsq242 aq242 wq242
        refine wpList_nil ?_
        replace haq243 := haq243.pick' (L' := [(2, .bool true)]) ⟨rfl, trivial⟩
        refine nrm ?_
        refine wp_ret ?_
        obtain rfl := Option.some.inj hm
        exact ret_1 haq243 rfl (res_tmp haq243 rfl) ⟨_, rfl, rfl, _, Hp.le.rfl, St.sel (hsq243) 1 [0] rfl rfl⟩
    · replace hm := ifTe hb2 hm
      refine cnd_true (b := (p0a.2.2.length : Int) != (p0a.2.1.length : Int)) haq26 rfl rfl hb2 ?_
      refine wp_seq ?_
      refine wp_region_lit ?_
      refine seq_op0 haq26 hsq26 (opT_assign (v := .bool false) rfl rfl) rfl rfl ?_
      rintro u aq244 wq244 hf haq244 hsq244
      obtain rfl := Eq.symm hf
      clear haq26 hsq26 aq26 wq26
      refine wpList_nil ?_
      replace haq244 := haq244.pick' (L' := [(2, .bool false)]) ⟨rfl, trivial⟩
      refine nrm ?_
      refine wp_ret ?_
      refine thenR ?_
      obtain rfl := Option.some.inj hm
      exact ret_1 haq244 rfl (res_tmp haq244 rfl) ⟨_, rfl, rfl, _, Hp.le.rfl, St.sel (hsq244) 2 [1] rfl rfl⟩
set_option maxHeartbeats 8000000 in
theorem c_w_toIntSS (p0a : List (List Int)) (r : List (List Int)) (hm : m_w_toIntSS p0a = some r) {I : Hp} {w0 : World} (va0 : Value) (ra0 : (rSlice 34 (rSlice 3 rInt)).rd I [va0] p0a) : Con Try.prog 50 #[va0] I w0 [] (fun v => True) (fun v => [Ch.own (rSlice 34 (rSlice 3 rInt)) [v] r]) := by
  refine con_of_wp (n := 23) [(0, va0)] Try.func50 rfl rfl (Nat.le_of_ble_eq_true rfl) (args_all ⟨rfl, trivial⟩) (fun F w a ha hs => ?_) (fun v => ⟨dp_own (dp_slice (dp_slice dp_int)), trivial⟩)
  unfold m_w_toIntSS at hm
  refine wp_seq ?_
  refine wp_region_lit ?_
  refine seq_op0 ha hs (opT_assign (v := .slice none 0 0) rfl rfl) rfl rfl ?_
  rintro u aq1 wq1 hf haq1 hsq1
  obtain rfl := Eq.symm hf
  clear ha hs a w
  refine wpList_nil ?_
  replace haq1 := haq1.pick' (L' := [(0, va0)]) ⟨rfl, trivial⟩
  refine nrm ?_
  refine wp_seq ?_
  refine wp_region_lit ?_
  refine seq_op0 haq1 hsq1 (opT_move (v := va0) rfl rfl) rfl rfl ?_
  rintro u aq2 wq2 hf haq2 hsq2
  obtain rfl := Eq.symm hf
  clear haq1 hsq1 aq1 wq1
  refine seq_op0 haq2 hsq2 (opT_len_hd (v := va0) (n := p0a.length) (Hd.of_rd ra0) Try.underlying23 rfl rfl) rfl rfl ?_
  rintro u aq3 wq3 hf haq3 hsq3
  obtain rfl := Eq.symm hf
  clear haq2 hsq2 aq2 wq2
  obtain ⟨x1, hk1, hm⟩ := bind_some hm
  refine seq_op haq3 hsq3 rfl (opT_mk (E := 34) (R := rSlice 3 rInt) (zv := .slice none 0 0) (z := ([] : List Int)) zro_nil Try.underlying23 tz34 rfl rfl (by decide) (by decide) rfl rfl hk1) (List.Perm.refl _) rfl ?_
  rintro v1 aq4 wq4 - haq4 (hsq4 : St I w0 wq4 [Ch.own (rSlice 34 (rSlice 3 rInt)) [v1] x1, F])
  clear haq3 hsq3 aq3 wq3
  refine seq_op0 haq4 hsq4 (opT_assign (v := v1) rfl rfl) rfl rfl ?_
  rintro u aq5 wq5 hf haq5 hsq5
  obtain rfl := Eq.symm hf
  clear haq4 hsq4 aq4 wq4
  refine wpList_nil ?_
  replace haq5 := haq5.pick' (L' := [(0, va0), (3, v1)]) ⟨rfl, rfl, trivial⟩
  refine nrm ?_
  refine wp_seq ?_
  refine wp_seq ?_
  refine wp_region_lit ?_
  refine seq_op0 haq5 hsq5 (opT_assign (v := .int .i64 0) rfl rfl) rfl rfl ?_
  rintro u aq6 wq6 hf haq6 hsq6
  obtain rfl := Eq.symm hf
  clear haq5 hsq5 aq5 wq5
  refine wpList_nil ?_
  replace haq6 := haq6.pick' (L' := [(0, va0), (3, v1), (4, .int .i64 0)]) ⟨rfl, rfl, rfl, trivial⟩
  refine nrm ?_
  obtain ⟨o1, hl1, hc1⟩ := bindL_some hm
  refine wp_cut (fun a w => ∃ s4 : (List (List Int)) × Int, o1 = .brk s4 ∧ Agr 23 a [(3, v1)] ∧ St I w0 w [Ch.own (rSlice 34 (rSlice 3 rInt)) [v1] s4.1, F]) ?_ ?_
  · refine wp_block (wp_loopM (R := List (List Int)) (S := (List (List Int)) × Int) (fun s3 a w => Agr 23 a [(0, va0), (3, v1), (4, .int .i64 s3.2)] ∧ St I w0 w [Ch.own (rSlice 34 (rSlice 3 rInt)) [v1] s3.1, F]) hl1 ?_ ?_)
    · exact ⟨haq6.pick' ⟨rfl, rfl, rfl, trivial⟩, St.sel hsq6 2 [0, 1] rfl rfl⟩
    · rintro s3 o2 hm hf1 aq39 wq39 ⟨haq39, hsq39⟩
      unfold m_w_toIntSS_l0 at hm
      refine wp_seq ?_
      refine wp_seq ?_
      refine wp_region_lit ?_
      refine seq_op0 haq39 hsq39 (opT_move (v := .int .i64 s3.2) rfl rfl) rfl rfl ?_
      rintro u aq40 wq40 hf haq40 hsq40
      obtain rfl := Eq.symm hf
      clear haq39 hsq39 aq39 wq39
      refine seq_op0 haq40 hsq40 (opT_move (v := va0) rfl rfl) rfl rfl ?_
      rintro u aq41 wq41 hf haq41 hsq41
      obtain rfl := Eq.symm hf
      clear haq40 hsq40 aq40 wq40
      refine seq_op0 haq41 hsq41 (opT_len_hd (v := va0) (n := p0a.length) (Hd.of_rd ra0) Try.underlying23 rfl rfl) rfl rfl ?_
      rintro u aq42 wq42 hf haq42 hsq42
      obtain rfl := Eq.symm hf
      clear haq41 hsq41 aq41 wq41
      refine seq_op0 haq42 hsq42 (opT_cmp (k := .i64) (m := s3.2) (n := (p0a.length : Int)) (c := decide (s3.2 < (p0a.length : Int))) rfl rfl rfl rfl rfl) rfl rfl ?_
      rintro u aq43 wq43 hf haq43 hsq43
      obtain rfl := Eq.symm hf
      clear haq42 hsq42 aq42 wq42
      refine wpList_nil ?_
      replace haq43 := haq43.pick' (L' := [(0, va0), (3, v1), (4, .int .i64 s3.2), (11, .bool (decide (s3.2 < (p0a.length : Int))))]) ⟨rfl, rfl, rfl, rfl, trivial⟩
      refine nrm ?_
      rcases two (decide (s3.2 < (p0a.length : Int))) with hb3 | hb3
      · replace hm := ifFe hb3 hm
        refine cnd_false (b := decide (s3.2 < (p0a.length : Int))) haq43 rfl rfl hb3 ?_
        refine wp_exit ?_
        refine thenX ?_
        refine thenX ?_
        refine ex_in ?_
        refine nrm ?_
        exact ⟨_, loopBrk hm hf1, ⟨haq43.pick' ⟨rfl, trivial⟩, St.sel hsq43 2 [0, 1] rfl rfl⟩⟩
      · replace hm := ifTe hb3 hm
        refine cnd_true (b := decide (s3.2 < (p0a.length : Int))) haq43 rfl rfl hb3 ?_
        refine wp_skip ?_
        refine nrm ?_
        refine wp_seq ?_
        refine wp_block ?_
        refine wp_region_lit ?_
        refine seq_op0 haq43 hsq43 (opT_move (v := v1) rfl rfl) rfl rfl ?_
        rintro u aq44 wq44 hf haq44 hsq44
        obtain rfl := Eq.symm hf
        clear haq43 hsq43 aq43 wq43
        refine seq_op0 haq44 hsq44 (opT_move (v := .int .i64 s3.2) rfl rfl) rfl rfl ?_
        rintro u aq45 wq45 hf haq45 hsq45
        obtain rfl := Eq.symm hf
        clear haq44 hsq44 aq44 wq44
        refine seq_op0 haq45 hsq45 (opT_move (v := va0) rfl rfl) rfl rfl ?_
        rintro u aq46 wq46 hf haq46 hsq46
        obtain rfl := Eq.symm hf
        clear haq45 hsq45 aq45 wq45
        refine seq_op0 haq46 hsq46 (opT_move (v := .int .i64 s3.2) rfl rfl) rfl rfl ?_
        rintro u aq47 wq47 hf haq47 hsq47
        obtain rfl := Eq.symm hf
        clear haq46 hsq46 aq46 wq46
        obtain ⟨x6, e7, hm⟩ := bind_some hm
        refine seq_op0 haq47 hsq47 (opT_index_hd (xs := p0a) (i := s3.2) (n := 1) (Hd.of_rd ra0) Try.underlying23 ti34 rfl rfl rfl (getI_in e7)) rfl rfl ?_
        rintro u aq48 wq48 hf haq48 hsq48
        obtain rfl := Eq.symm hf
        clear haq47 hsq47 aq47 wq47
        refine seq_op0 haq48 hsq48 (opT_load_el (S := rSlice 3 rInt) (xs := p0a) (a := x6) (i := s3.2) (k := 1) (off := 0) (f := fun (x : List Int) => x) ra0 e7 Fld.self ti34 rfl rfl rfl rfl rfl) rfl rfl ?_
        rintro v6 aq49 wq49 hf haq49 hsq49
        have r5 := lds_sl hf
        clear hf
        clear haq48 hsq48 aq48 wq48
        obtain ⟨r6, e8, hm⟩ := bind_some hm
        refine seq_op haq49 hsq49 rfl (opT_call (args := #[v6]) (first := #[]) (captured := #[]) en66 rfl rfl rfl (c_w_toIntS x6 _ e8 v6 r5)) (List.Perm.refl _) rfl ?_
        rintro v7 aq50 wq50 - haq50 (hsq50 : St I w0 wq50 [Ch.own (rSlice 3 rInt) [v7] r6, Ch.own (rSlice 34 (rSlice 3 rInt)) [v1] s3.1, F])
        clear haq49 hsq49 aq49 wq49
        obtain ⟨x7, e9, hm⟩ := bind_some hm
        refine seq_op0 haq50 hsq50 (opT_index_hd (xs := s3.1) (i := s3.2) (n := 1) (St.hd hsq50 1 rfl).1 Try.underlying23 ti34 rfl rfl rfl (getI_in e9)) rfl rfl ?_
        rintro u aq51 wq51 hf haq51 hsq51
        obtain rfl := Eq.symm hf
        clear haq50 hsq50 aq50 wq50
        refine seq_op haq51 hsq51 rfl (opT_store_own (E := 34) (R := rSlice 3 rInt) (S := rSlice 3 rInt) (xs := s3.1) (a := x7) (b := r6) (i := s3.2) (k := 1) (off := 0) (f := fun x y => y) (v := v1) (d := [v7]) (u := v7) bun_own e9 UpdO.self ti34 rfl rfl rfl (Hd.cells (St.hd hsq51 0 rfl).1) (allC (Hd.one (St.hd hsq51 0 rfl).1) allN) rfl rfl rfl (by decide)) (perm_sel [1, 0, 2] (m := 3) rfl rfl) rfl ?_
        rintro _ aq52 wq52 - haq52 (hsq52 : St I w0 wq52 [Ch.own (rSlice 34 (rSlice 3 rInt)) [v1] (s3.1.set s3.2.toNat r6), F])
        clear haq51 hsq51 aq51 wq51
        refine wpList_nil ?_
        replace haq52 := haq52.pick' (L' := [(0, va0), (3, v1), (4, .int .i64 s3.2)]) ⟨rfl, rfl, rfl, trivial⟩
        refine nrmB ?_
        refine nrm ?_
        refine wp_region_lit ?_
        refine seq_op0 haq52 hsq52 (opT_move (v := .int .i64 s3.2) rfl rfl) rfl rfl ?_
        rintro u aq53 wq53 hf haq53 hsq53
        obtain rfl := Eq.symm hf
        clear haq52 hsq52 aq52 wq52
        refine seq_op0 haq53 hsq53 (opT_add (m := s3.2) (n := 1) rfl rfl rfl) rfl rfl ?_
        rintro u aq54 wq54 hf haq54 hsq54
        obtain rfl := Eq.symm hf
        clear haq53 hsq53 aq53 wq53
        refine seq_op0 haq54 hsq54 (opT_assign (v := .int .i64 (IntKind.i64.wrap (s3.2 + 1))) rfl rfl) rfl rfl ?_
        rintro u aq55 wq55 hf haq55 hsq55
        obtain rfl := Eq.symm hf
        clear haq54 hsq54 aq54 wq54
        refine wpList_nil ?_
        replace haq55 := haq55.pick' (L' := [(0, va0), (3, v1), (4, .int .i64 (IntKind.i64.wrap (s3.2 + 1)))]) ⟨rfl, rfl, rfl, trivial⟩
        refine nrm ?_
        exact ⟨_, (Option.some.inj hm).symm, ⟨haq55.pick' ⟨rfl, rfl, rfl, trivial⟩, St.sel hsq55 2 [0, 1] rfl rfl⟩⟩
  · rintro aq56 wq56 ⟨s4, ho1, haq56, hsq56⟩
    replace hm := loopOut ho1 hc1
    clear ho1 hc1 hl1
    refine nrm ?_
    refine wp_seq ?_
    refine wp_region_lit ?_
    refine seq_op0 haq56 hsq56 (opT_move (v := v1) rfl rfl) rfl rfl ?_
    rintro u aq57 wq57 hf haq57 hsq57
    obtain rfl := Eq.symm hf
    clear haq56 hsq56 aq56 wq56
    refine seq_op0 haq57 hsq57 (opT_assign (v := v1) rfl rfl) rfl rfl ?_
    rintro u aq58 wq58 hf haq58 hsq58
    obtain rfl := Eq.symm hf
    clear haq57 hsq57 aq57 wq57
    refine wpList_nil ?_
    replace haq58 := haq58.pick' (L' := [(2, v1)]) ⟨rfl, trivial⟩
    refine nrm ?_
    refine wp_ret ?_
    obtain rfl := Option.some.inj hm
    exact ret_1 haq58 rfl (res_tmp haq58 rfl) ⟨_, rfl, trivial, _, Hp.le.rfl, St.sel (hsq58) 2 [0, 1] rfl rfl⟩
set_option maxHeartbeats 8000000 in
theorem c_i_isLetter (p0n : Int) (r : Bool) (hm : m_i_isLetter p0n = some r) {I : Hp} {w0 : World} : Con Try.prog 149 #[.int .i64 p0n] I w0 [] (fun v => v = .bool r) (fun v => []) := by
  refine con_of_wp (n := 5) [(0, .int .i64 p0n)] Try.func149 rfl rfl (Nat.le_of_ble_eq_true rfl) (args_all ⟨rfl, trivial⟩) (fun F w a ha hs => ?_) (fun v => trivial)
  unfold m_i_isLetter at hm
  refine wp_seq ?_
  refine wp_region_lit ?_
  refine seq_op0 ha hs (opT_assign (v := .bool false) rfl rfl) rfl rfl ?_
  rintro u aq1 wq1 hf haq1 hsq1
  obtain rfl := Eq.symm hf
  clear ha hs a w
  refine wpList_nil ?_
  replace haq1 := haq1.pick' (L' := [(0, .int .i64 p0n)]) ⟨rfl, trivial⟩
  refine nrm ?_
  refine wp_seq ?_
  refine wp_region_lit ?_
  refine seq_op0 haq1 hsq1 (opT_move (v := .int .i64 p0n) rfl rfl) rfl rfl ?_
  rintro u aq2 wq2 hf haq2 hsq2
  obtain rfl := Eq.symm hf
  clear haq1 hsq1 aq1 wq1
  obtain ⟨r1, e1, hm⟩ := bind_some hm
  refine seq_op0 haq2 hsq2 (opT_call (args := #[.int .i64 p0n, .int .i64 0, .int .i64 8]) (first := #[]) (captured := #[]) en95 rfl rfl rfl (c_i_within p0n 0 8 _ e1  )) rfl rfl ?_
  rintro u aq3 wq3 hf haq3 hsq3
  obtain rfl := Eq.symm hf
  clear haq2 hsq2 aq2 wq2
  refine seq_op0 haq3 hsq3 (opT_assign (v := .bool r1) rfl rfl) rfl rfl ?_
  rintro u aq4 wq4 hf haq4 hsq4
  obtain rfl := Eq.symm hf
  clear haq3 hsq3 aq3 wq3
  refine wpList_nil ?_
  replace haq4 := haq4.pick' (L' := [(2, .bool r1)]) ⟨rfl, trivial⟩
  refine nrm ?_
  refine wp_ret ?_
  obtain rfl := Option.some.inj hm
  exact ret_1 haq4 rfl (res_tmp haq4 rfl) ⟨_, rfl, rfl, _, Hp.le.rfl, St.sel (hsq4) 1 [0] rfl rfl⟩
end Go.Proofs.Ytcihbmdppgpmjaa.D
