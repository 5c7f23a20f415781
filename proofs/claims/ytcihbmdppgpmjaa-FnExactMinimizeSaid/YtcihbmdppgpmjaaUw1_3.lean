/- Printed by dec.py: models of functions and the walks that show them. -/
import Derived.Test.YtcihbmdppgpmjaaUw0_1
import Derived.Test.YtcihbmdppgpmjaaUw0_2
set_option linter.unusedVariables false
set_option linter.unusedSimpArgs false
set_option linter.unnecessarySimpa false
set_option maxRecDepth 100000
namespace Go.Proofs.Ytcihbmdppgpmjaa.D
open Go.RowKit
set_option maxHeartbeats 8000000 in
theorem c_i_IsValidAutomaton (p0a : Int × (List Bool) × (List (List Int))) (r : Bool) (hm : m_i_IsValidAutomaton p0a = some r) {I : Hp} {w0 : World} (va0 : Value) (va1 : Value) (ra0 : (rSlice 4 rBool).rd I [va0] p0a.2.1) (ra1 : (rSlice 34 (rSlice 3 rInt)).rd I [va1] p0a.2.2) : Con Try.prog 51 #[.agg #[.int .i64 p0a.1, va0, va1]] I w0 [] (fun v => v = .bool r) (fun v => []) := by
  refine con_of_wp (n := 52) [(0, .agg #[.int .i64 p0a.1, va0, va1])] Try.func51 rfl rfl (Nat.le_of_ble_eq_true rfl) (args_all ⟨rfl, trivial⟩) (fun F w a ha hs => ?_) (fun v => trivial)
  unfold m_i_IsValidAutomaton at hm
  refine wp_seq ?_
  refine wp_region_lit ?_
  refine seq_op ha hs rfl (opT_box (u := .agg #[.int .i64 p0a.1, va0, va1]) (l := [.int .i64 p0a.1, va0, va1]) rfl rfl rfl) (List.Perm.refl _) rfl ?_
  rintro _ a1 w1 ⟨g1, rfl⟩ A1 (S1 : St I w0 w1 [Ch.blk g1 [.int .i64 p0a.1, va0, va1] 27, F])
  clear ha hs a w
  refine sv A1 S1 (opT_assign (v := .bool false) rfl rfl) rfl rfl ?_
  clear A1 S1 a1 w1;intro a2 w2 A2 S2
  refine wpList_nil ?_
  replace A2 := A2.pick' (L' := [(1, .pointer (some ⟨g1, 0, none⟩))]) ⟨rfl, trivial⟩
  refine nrm ?_
  refine wp_seq ?_
  refine wp_region_lit ?_
  refine sv A2 S2 (opT_field_addr (g := g1) (b := 0) tf27_1 rfl rfl) rfl rfl ?_
  clear A2 S2 a2 w2;intro a3 w3 A3 S3
  refine seq_op A3 S3 rfl (opT_load_blk (g := g1) (off := 1) (E := 27) (l := [.int .i64 p0a.1, va0, va1]) (d := [va0]) (u := va0) ti22 rfl rfl rfl rfl rfl rfl) (perm_front (i := 0) rfl) rfl ?_
  rintro u a4 w4 hf A4 (S4 : St I w0 w4 [Ch.blk g1 [.int .i64 p0a.1, va0, va1] 27, F])
  obtain rfl := Eq.symm hf
  clear A3 S3 a3 w3
  refine sv A4 S4 (opT_len_hd (v := va0) (n := p0a.2.1.length) (Hd.of_rd ra0) Try.underlying22 rfl rfl) rfl rfl ?_
  clear A4 S4 a4 w4;intro a5 w5 A5 S5
  refine sv A5 S5 (opT_assign (v := .int .i64 (p0a.2.1.length : Int)) rfl rfl) rfl rfl ?_
  clear A5 S5 a5 w5;intro a6 w6 A6 S6
  refine wpList_nil ?_
  replace A6 := A6.pick' (L' := [(1, .pointer (some ⟨g1, 0, none⟩)), (3, .int .i64 (p0a.2.1.length : Int))]) ⟨rfl, rfl, trivial⟩
  refine nrm ?_
  refine wp_seq ?_
  refine wp_seq ?_
  refine wp_region_lit ?_
  refine sv A6 S6 (opT_move (v := .int .i64 (p0a.2.1.length : Int)) rfl rfl) rfl rfl ?_
  clear A6 S6 a6 w6;intro a7 w7 A7 S7
  obtain ⟨r1, e1, hm⟩ := bind_some hm
  refine seq_op0 A7 S7 (opT_call (args := #[.int .i64 (p0a.2.1.length : Int), .int .i64 1, .int .i64 12]) (first := #[]) (captured := #[]) en95 rfl rfl rfl (c_i_within (p0a.2.1.length : Int) 1 12 _ e1  )) rfl rfl ?_
  rintro u a8 w8 hf A8 S8
  obtain rfl := Eq.symm hf
  clear A7 S7 a7 w7
  refine sv A8 S8 (opT_not (b := r1) rfl rfl) rfl rfl ?_
  clear A8 S8 a8 w8;intro a9 w9 A9 S9
  refine sv A9 S9 (opT_move (v := .bool (!r1)) rfl rfl) rfl rfl ?_
  clear A9 S9 a9 w9;intro a10 w10 A10 S10
  rcases two (r1) with hb1 | hb1
  · replace hm := ifFe hb1 hm
    refine seq_skip (g := 3) (d := 14) (want := false) (b := !r1) A10 S10 rfl rfl rfl (notT hb1) rfl ?_
    intro a11 A11
    refine seq_skip (g := 3) (d := 14) (want := false) (b := !r1) A11 S10 rfl rfl rfl (notT hb1) rfl ?_
    intro a12 A12
    refine seq_skip (g := 3) (d := 14) (want := false) (b := !r1) A12 S10 rfl rfl rfl (notT hb1) rfl ?_
    intro a13 A13
    refine seq_skip (g := 3) (d := 14) (want := false) (b := !r1) A13 S10 rfl rfl rfl (notT hb1) rfl ?_
    intro a14 A14
    refine seq_skip (g := 3) (d := 14) (want := false) (b := !r1) A14 S10 rfl rfl rfl (notT hb1) rfl ?_
    intro a15 A15
    refine seq_skip (g := 3) (d := 14) (want := false) (b := !r1) A15 S10 rfl rfl rfl (notT hb1) rfl ?_
    intro a16 A16
    refine sv A16 S10 (opT_pick (b := !r1) (v := .bool true) rfl rfl (ifT (notT hb1))) rfl rfl ?_
    clear A16 S10 a16 w10;intro a17 w17 A17 S17
    refine sv A17 S17 (opT_move (v := .bool true) rfl rfl) rfl rfl ?_
    clear A17 S17 a17 w17;intro a18 w18 A18 S18
    refine seq_skip (g := 11) (d := 22) (want := false) (b := true) A18 S18 rfl rfl rfl rfl rfl ?_
    intro a19 A19
    refine seq_skip (g := 11) (d := 22) (want := false) (b := true) A19 S18 rfl rfl rfl rfl rfl ?_
    intro a20 A20
    refine seq_skip (g := 11) (d := 22) (want := false) (b := true) A20 S18 rfl rfl rfl rfl rfl ?_
    intro a21 A21
    refine seq_skip (g := 11) (d := 22) (want := false) (b := true) A21 S18 rfl rfl rfl rfl rfl ?_
    intro a22 A22
    refine seq_skip (g := 11) (d := 22) (want := false) (b := true) A22 S18 rfl rfl rfl rfl rfl ?_
    intro a23 A23
    refine sv A23 S18 (opT_pick (b := true) (v := .bool true) rfl rfl (ifT rfl)) rfl rfl ?_
    clear A23 S18 a23 w18;intro a24 w24 A24 S24
    refine wpList_nil ?_
    replace A24 := A24.pick' (L' := [(1, .pointer (some ⟨g1, 0, none⟩)), (3, .int .i64 (p0a.2.1.length : Int)), (28, .bool true)]) ⟨rfl, rfl, rfl, trivial⟩
    refine nrm ?_
    refine cnd_true (b := true) A24 rfl rfl rfl ?_
    refine wp_seq ?_
    refine wp_region_lit ?_
    refine sv A24 S24 (opT_assign (v := .bool false) rfl rfl) rfl rfl ?_
    clear A24 S24 a24 w24;intro a25 w25 A25 S25
    refine wpList_nil ?_
    replace A25 := A25.pick' (L' := [(2, .bool false)]) ⟨rfl, trivial⟩
    refine nrm ?_
    refine wp_ret ?_
    refine thenR ?_
    obtain rfl := Option.some.inj hm
    exact ret_1 A25 rfl (res_tmp A25 rfl) ⟨_, rfl, rfl, _, Hp.le.rfl, St.sel (S25) 2 [1] rfl rfl⟩
  · replace hm := ifTe hb1 hm
    refine svg (g := 3) (d := 14) (want := false) (b := !r1) A10 S10 rfl rfl rfl (notF hb1) (opT_field_addr (g := g1) (b := 0) tf27_0 rfl rfl) rfl ?_
    clear A10 S10 a10 w10;intro a26 w26 A26 S26
    refine seq_op_g (g := 3) (d := 14) (want := false) (b := !r1) A26 S26 rfl rfl rfl (notF hb1) (opT_load_blk (g := g1) (off := 0) (E := 27) (l := [.int .i64 p0a.1, va0, va1]) (d := [.int .i64 p0a.1]) (u := .int .i64 p0a.1) ti3 rfl rfl rfl rfl rfl rfl) (perm_front (i := 0) rfl) rfl ?_
    rintro u a27 w27 hf A27 (S27 : St I w0 w27 [Ch.blk g1 [.int .i64 p0a.1, va0, va1] 27, F])
    obtain rfl := Eq.symm hf
    clear A26 S26 a26 w26
    refine svg (g := 3) (d := 14) (want := false) (b := !r1) A27 S27 rfl rfl rfl (notF hb1) (opT_move (v := .int .i64 (p0a.2.1.length : Int)) rfl rfl) rfl ?_
    clear A27 S27 a27 w27;intro a28 w28 A28 S28
    refine svg (g := 3) (d := 14) (want := false) (b := !r1) A28 S28 rfl rfl rfl (notF hb1) (opT_sub (m := (p0a.2.1.length : Int)) (n := 1) rfl rfl rfl) rfl ?_
    clear A28 S28 a28 w28;intro a29 w29 A29 S29
    obtain ⟨r2, e2, hm⟩ := bind_some hm
    refine seq_op_g0 (g := 3) (d := 14) (want := false) (b := !r1) A29 S29 rfl rfl rfl (notF hb1) (opT_call (args := #[.int .i64 p0a.1, .int .i64 0, .int .i64 (IntKind.i64.wrap ((p0a.2.1.length : Int) - 1))]) (first := #[]) (captured := #[]) en95 rfl rfl rfl (c_i_within p0a.1 0 (IntKind.i64.wrap ((p0a.2.1.length : Int) - 1)) _ e2  )) rfl ?_
    rintro u a30 w30 hf A30 S30
    obtain rfl := Eq.symm hf
    clear A29 S29 a29 w29
    refine svg (g := 3) (d := 14) (want := false) (b := !r1) A30 S30 rfl rfl rfl (notF hb1) (opT_not (b := r2) rfl rfl) rfl ?_
    clear A30 S30 a30 w30;intro a31 w31 A31 S31
    refine sv A31 S31 (opT_pick (b := !r1) (v := .bool (!r2)) rfl rfl (ifF (notF hb1))) rfl rfl ?_
    clear A31 S31 a31 w31;intro a32 w32 A32 S32
    refine sv A32 S32 (opT_move (v := .bool (!r2)) rfl rfl) rfl rfl ?_
    clear A32 S32 a32 w32;intro a33 w33 A33 S33
    rcases two (r2) with hb2 | hb2
    · replace hm := ifFe hb2 hm
      refine seq_skip (g := 11) (d := 22) (want := false) (b := !r2) A33 S33 rfl rfl rfl (notT hb2) rfl ?_
      intro a34 A34
      refine seq_skip (g := 11) (d := 22) (want := false) (b := !r2) A34 S33 rfl rfl rfl (notT hb2) rfl ?_
      intro a35 A35
      refine seq_skip (g := 11) (d := 22) (want := false) (b := !r2) A35 S33 rfl rfl rfl (notT hb2) rfl ?_
      intro a36 A36
      refine seq_skip (g := 11) (d := 22) (want := false) (b := !r2) A36 S33 rfl rfl rfl (notT hb2) rfl ?_
      intro a37 A37
      refine seq_skip (g := 11) (d := 22) (want := false) (b := !r2) A37 S33 rfl rfl rfl (notT hb2) rfl ?_
      intro a38 A38
      refine sv A38 S33 (opT_pick (b := !r2) (v := .bool true) rfl rfl (ifT (notT hb2))) rfl rfl ?_
      clear A38 S33 a38 w33;intro a39 w39 A39 S39
      refine wpList_nil ?_
      replace A39 := A39.pick' (L' := [(1, .pointer (some ⟨g1, 0, none⟩)), (3, .int .i64 (p0a.2.1.length : Int)), (28, .bool true)]) ⟨rfl, rfl, rfl, trivial⟩
      refine nrm ?_
      refine cnd_true (b := true) A39 rfl rfl rfl ?_
      refine wp_seq ?_
      refine wp_region_lit ?_
      refine sv A39 S39 (opT_assign (v := .bool false) rfl rfl) rfl rfl ?_
      clear A39 S39 a39 w39;intro a40 w40 A40 S40
      refine wpList_nil ?_
      replace A40 := A40.pick' (L' := [(2, .bool false)]) ⟨rfl, trivial⟩
      refine nrm ?_
      refine wp_ret ?_
      refine thenR ?_
      obtain rfl := Option.some.inj hm
      exact ret_1 A40 rfl (res_tmp A40 rfl) ⟨_, rfl, rfl, _, Hp.le.rfl, St.sel (S40) 2 [1] rfl rfl⟩
    · replace hm := ifTe hb2 hm
      refine svg (g := 11) (d := 22) (want := false) (b := !r2) A33 S33 rfl rfl rfl (notF hb2) (opT_field_addr (g := g1) (b := 0) tf27_2 rfl rfl) rfl ?_
      clear A33 S33 a33 w33;intro a41 w41 A41 S41
      refine seq_op_g (g := 11) (d := 22) (want := false) (b := !r2) A41 S41 rfl rfl rfl (notF hb2) (opT_load_blk (g := g1) (off := 2) (E := 27) (l := [.int .i64 p0a.1, va0, va1]) (d := [va1]) (u := va1) ti23 rfl rfl rfl rfl rfl rfl) (perm_front (i := 0) rfl) rfl ?_
      rintro u a42 w42 hf A42 (S42 : St I w0 w42 [Ch.blk g1 [.int .i64 p0a.1, va0, va1] 27, F])
      obtain rfl := Eq.symm hf
      clear A41 S41 a41 w41
      refine svg (g := 11) (d := 22) (want := false) (b := !r2) A42 S42 rfl rfl rfl (notF hb2) (opT_len_hd (v := va1) (n := p0a.2.2.length) (Hd.of_rd ra1) Try.underlying23 rfl rfl) rfl ?_
      clear A42 S42 a42 w42;intro a43 w43 A43 S43
      refine svg (g := 11) (d := 22) (want := false) (b := !r2) A43 S43 rfl rfl rfl (notF hb2) (opT_move (v := .int .i64 (p0a.2.1.length : Int)) rfl rfl) rfl ?_
      clear A43 S43 a43 w43;intro a44 w44 A44 S44
      refine svg (g := 11) (d := 22) (want := false) (b := !r2) A44 S44 rfl rfl rfl (notF hb2) (opT_cmp (k := .i64) (m := (p0a.2.2.length : Int)) (n := (p0a.2.1.length : Int)) (c := (p0a.2.2.length : Int) != (p0a.2.1.length : Int)) rfl rfl rfl rfl rfl) rfl ?_
      clear A44 S44 a44 w44;intro a45 w45 A45 S45
      refine sv A45 S45 (opT_pick (b := !r2) (v := .bool ((p0a.2.2.length : Int) != (p0a.2.1.length : Int))) rfl rfl (ifF (notF hb2))) rfl rfl ?_
      clear A45 S45 a45 w45;intro a46 w46 A46 S46
      refine wpList_nil ?_
      replace A46 := A46.pick' (L' := [(1, .pointer (some ⟨g1, 0, none⟩)), (3, .int .i64 (p0a.2.1.length : Int)), (28, .bool ((p0a.2.2.length : Int) != (p0a.2.1.length : Int)))]) ⟨rfl, rfl, rfl, trivial⟩
      refine nrm ?_
      rcases two ((p0a.2.2.length : Int) != (p0a.2.1.length : Int)) with hb3 | hb3
      · replace hm := ifFe hb3 hm
        refine cnd_false (b := (p0a.2.2.length : Int) != (p0a.2.1.length : Int)) A46 rfl rfl hb3 ?_
        refine wp_skip ?_
        refine nrm ?_
        refine wp_seq ?_
        refine wp_seq ?_
        refine wp_region_lit ?_
        refine sv A46 S46 (opT_field_addr (g := g1) (b := 0) tf27_2 rfl rfl) rfl rfl ?_
        clear A46 S46 a46 w46;intro a47 w47 A47 S47
        refine seq_op A47 S47 rfl (opT_load_blk (g := g1) (off := 2) (E := 27) (l := [.int .i64 p0a.1, va0, va1]) (d := [va1]) (u := va1) ti23 rfl rfl rfl rfl rfl rfl) (perm_front (i := 0) rfl) rfl ?_
        rintro u a48 w48 hf A48 (S48 : St I w0 w48 [Ch.blk g1 [.int .i64 p0a.1, va0, va1] 27, F])
        obtain rfl := Eq.symm hf
        clear A47 S47 a47 w47
        refine sv A48 S48 (opT_len_hd (v := va1) (n := p0a.2.2.length) (Hd.of_rd ra1) Try.underlying23 rfl rfl) rfl rfl ?_
        clear A48 S48 a48 w48;intro a49 w49 A49 S49
        refine sv A49 S49 (opT_move (v := .int .i64 0) rfl rfl) rfl rfl ?_
        clear A49 S49 a49 w49;intro a50 w50 A50 S50
        refine wpList_nil ?_
        replace A50 := A50.pick' (L' := [(3, .int .i64 (p0a.2.1.length : Int)), (30, va1), (31, .int .i64 (p0a.2.2.length : Int)), (32, .int .i64 0)]) ⟨rfl, rfl, rfl, rfl, trivial⟩
        refine nrm ?_
        obtain ⟨o5, hl3, hc3⟩ := bindL_some hm
        refine wp_cut (fun a w => ∃ s12 : Int, o5 = .brk s12 ∧ Agr 52 a [] ∧ St I w0 w [F]) ?_ ?_
        · refine wp_block (wp_loopM (R := Bool) (S := Int) (fun s11 a w => Agr 52 a [(3, .int .i64 (p0a.2.1.length : Int)), (30, va1), (31, .int .i64 (p0a.2.2.length : Int)), (32, .int .i64 s11)] ∧ St I w0 w [F]) hl3 ?_ ?_)
          · exact ⟨A50.pick' ⟨rfl, rfl, rfl, rfl, trivial⟩, St.sel S50 2 [1] rfl rfl⟩
          · rintro s11 o6 hm hf3 a153 w153 ⟨A153, S153⟩
            unfold m_i_IsValidAutomaton_l0 at hm
            refine wp_seq ?_
            refine wp_region_lit ?_
            refine sv A153 S153 (opT_cmp (k := .i64) (m := s11) (n := (p0a.2.2.length : Int)) (c := decide (s11 < (p0a.2.2.length : Int))) rfl rfl rfl rfl rfl) rfl rfl ?_
            clear A153 S153 a153 w153;intro a154 w154 A154 S154
            refine wpList_nil ?_
            replace A154 := A154.pick' (L' := [(3, .int .i64 (p0a.2.1.length : Int)), (30, va1), (31, .int .i64 (p0a.2.2.length : Int)), (32, .int .i64 s11), (33, .bool (decide (s11 < (p0a.2.2.length : Int))))]) ⟨rfl, rfl, rfl, rfl, rfl, trivial⟩
            refine nrm ?_
            refine wp_seq ?_
            rcases two (decide (s11 < (p0a.2.2.length : Int))) with hb20 | hb20
            · replace hm := ifFe hb20 hm
              refine cnd_false (b := decide (s11 < (p0a.2.2.length : Int))) A154 rfl rfl hb20 ?_
              refine wp_exit ?_
              refine thenX ?_
              refine thenX ?_
              refine ex_in ?_
              refine nrm ?_
              exact ⟨_, loopBrk hm hf3, ⟨A154.pick' trivial, St.sel S154 1 [0] rfl rfl⟩⟩
            · replace hm := ifTe hb20 hm
              refine cnd_true (b := decide (s11 < (p0a.2.2.length : Int))) A154 rfl rfl hb20 ?_
              refine wp_skip ?_
              refine nrm ?_
              refine wp_seq ?_
              refine wp_block ?_
              refine wp_seq ?_
              refine wp_region_lit ?_
              obtain ⟨x9, e17, hm⟩ := bind_some hm
              refine sv A154 S154 (opT_index_hd (xs := p0a.2.2) (i := s11) (n := 1) (Hd.of_rd ra1) Try.underlying23 ti34 rfl rfl rfl (getI_in e17)) rfl rfl ?_
              clear A154 S154 a154 w154;intro a155 w155 A155 S155
              refine seq_op0 A155 S155 (opT_load_el (S := rSlice 3 rInt) (xs := p0a.2.2) (a := x9) (i := s11) (k := 1) (off := 0) (f := fun (x : List Int) => x) ra1 e17 Fld.self ti34 rfl rfl rfl rfl rfl) rfl rfl ?_
              rintro v3 a156 w156 hf A156 S156
              have r11 := lds_sl hf
              clear hf
              clear A155 S155 a155 w155
              refine sv A156 S156 (opT_assign (v := v3) rfl rfl) rfl rfl ?_
              clear A156 S156 a156 w156;intro a157 w157 A157 S157
              refine wpList_nil ?_
              replace A157 := A157.pick' (L' := [(3, .int .i64 (p0a.2.1.length : Int)), (5, v3), (30, va1), (31, .int .i64 (p0a.2.2.length : Int)), (32, .int .i64 s11)]) ⟨rfl, rfl, rfl, rfl, rfl, trivial⟩
              refine nrm ?_
              refine wp_seq ?_
              refine wp_seq ?_
              refine wp_region_lit ?_
              refine sv A157 S157 (opT_move (v := v3) rfl rfl) rfl rfl ?_
              clear A157 S157 a157 w157;intro a158 w158 A158 S158
              refine sv A158 S158 (opT_len_hd (v := v3) (n := x9.length) (Hd.of_rd r11) Try.underlying34 rfl rfl) rfl rfl ?_
              clear A158 S158 a158 w158;intro a159 w159 A159 S159
              refine sv A159 S159 (opT_move (v := .int .i64 0) rfl rfl) rfl rfl ?_
              clear A159 S159 a159 w159;intro a160 w160 A160 S160
              refine wpList_nil ?_
              replace A160 := A160.pick' (L' := [(3, .int .i64 (p0a.2.1.length : Int)), (5, v3), (30, va1), (31, .int .i64 (p0a.2.2.length : Int)), (32, .int .i64 s11), (36, v3), (37, .int .i64 (x9.length : Int)), (38, .int .i64 0)]) ⟨rfl, rfl, rfl, rfl, rfl, rfl, rfl, rfl, trivial⟩
              refine nrm ?_
              obtain ⟨o7, hl4, hc4⟩ := bindL_some hm
              refine wp_cut (fun a w => ∃ s16 : Int, o7 = .brk s16 ∧ Agr 52 a [(3, .int .i64 (p0a.2.1.length : Int)), (5, v3), (30, va1), (31, .int .i64 (p0a.2.2.length : Int)), (32, .int .i64 s11)] ∧ St I w0 w [F]) ?_ ?_
              · refine wp_block (wp_loopM (R := Bool) (S := Int) (fun s15 a w => Agr 52 a [(3, .int .i64 (p0a.2.1.length : Int)), (5, v3), (30, va1), (31, .int .i64 (p0a.2.2.length : Int)), (32, .int .i64 s11), (36, v3), (37, .int .i64 (x9.length : Int)), (38, .int .i64 s15)] ∧ St I w0 w [F]) hl4 ?_ ?_)
                · exact ⟨A160.pick' ⟨rfl, rfl, rfl, rfl, rfl, rfl, rfl, rfl, trivial⟩, St.sel S160 1 [0] rfl rfl⟩
                · rintro s15 o8 hm hf4 a185 w185 ⟨A185, S185⟩
                  unfold m_i_IsValidAutomaton_l1 at hm
                  refine wp_seq ?_
                  refine wp_region_lit ?_
                  refine sv A185 S185 (opT_cmp (k := .i64) (m := s15) (n := (x9.length : Int)) (c := decide (s15 < (x9.length : Int))) rfl rfl rfl rfl rfl) rfl rfl ?_
                  clear A185 S185 a185 w185;intro a186 w186 A186 S186
                  refine wpList_nil ?_
                  replace A186 := A186.pick' (L' := [(3, .int .i64 (p0a.2.1.length : Int)), (5, v3), (30, va1), (31, .int .i64 (p0a.2.2.length : Int)), (32, .int .i64 s11), (36, v3), (37, .int .i64 (x9.length : Int)), (38, .int .i64 s15), (39, .bool (decide (s15 < (x9.length : Int))))]) ⟨rfl, rfl, rfl, rfl, rfl, rfl, rfl, rfl, rfl, trivial⟩
                  refine nrm ?_
                  refine wp_seq ?_
                  rcases two (decide (s15 < (x9.length : Int))) with hb25 | hb25
                  · replace hm := ifFe hb25 hm
                    refine cnd_false (b := decide (s15 < (x9.length : Int))) A186 rfl rfl hb25 ?_
                    refine wp_exit ?_
                    refine thenX ?_
                    refine thenX ?_
                    refine ex_in ?_
                    refine nrm ?_
                    exact ⟨_, loopBrk hm hf4, ⟨A186.pick' ⟨rfl, rfl, rfl, rfl, rfl, trivial⟩, St.sel S186 1 [0] rfl rfl⟩⟩
                  · replace hm := ifTe hb25 hm
                    refine cnd_true (b := decide (s15 < (x9.length : Int))) A186 rfl rfl hb25 ?_
                    refine wp_skip ?_
                    refine nrm ?_
                    refine wp_seq ?_
                    refine wp_block ?_
                    refine wp_seq ?_
                    refine wp_region_lit ?_
                    obtain ⟨x12, e22, hm⟩ := bind_some hm
                    refine sv A186 S186 (opT_index_hd (xs := x9) (i := s15) (n := 1) (Hd.of_rd r11) Try.underlying34 ti3 rfl rfl rfl (getI_in e22)) rfl rfl ?_
                    clear A186 S186 a186 w186;intro a187 w187 A187 S187
                    refine seq_op0 A187 S187 (opT_load_el (S := rInt) (xs := x9) (a := x12) (i := s15) (k := 1) (off := 0) (f := fun (x : Int) => x) r11 e22 Fld.self ti3 rfl rfl rfl rfl rfl) rfl rfl ?_
                    rintro u a188 w188 hf A188 S188
                    obtain rfl := lds_one hf
                    clear A187 S187 a187 w187
                    refine sv A188 S188 (opT_assign (v := .int .i64 x12) rfl rfl) rfl rfl ?_
                    clear A188 S188 a188 w188;intro a189 w189 A189 S189
                    refine wpList_nil ?_
                    replace A189 := A189.pick' (L' := [(3, .int .i64 (p0a.2.1.length : Int)), (5, v3), (7, .int .i64 x12), (30, va1), (31, .int .i64 (p0a.2.2.length : Int)), (32, .int .i64 s11), (36, v3), (37, .int .i64 (x9.length : Int)), (38, .int .i64 s15)]) ⟨rfl, rfl, rfl, rfl, rfl, rfl, rfl, rfl, rfl, trivial⟩
                    refine nrm ?_
                    refine wp_seq ?_
                    refine wp_region_lit ?_
                    refine sv A189 S189 (opT_move (v := .int .i64 x12) rfl rfl) rfl rfl ?_
                    clear A189 S189 a189 w189;intro a190 w190 A190 S190
                    refine sv A190 S190 (opT_move (v := .int .i64 (p0a.2.1.length : Int)) rfl rfl) rfl rfl ?_
                    clear A190 S190 a190 w190;intro a191 w191 A191 S191
                    refine sv A191 S191 (opT_sub (m := (p0a.2.1.length : Int)) (n := 1) rfl rfl rfl) rfl rfl ?_
                    clear A191 S191 a191 w191;intro a192 w192 A192 S192
                    obtain ⟨r14, e23, hm⟩ := bind_some hm
                    refine seq_op0 A192 S192 (opT_call (args := #[.int .i64 x12, .int .i64 (-1), .int .i64 (IntKind.i64.wrap ((p0a.2.1.length : Int) - 1))]) (first := #[]) (captured := #[]) en95 rfl rfl rfl (c_i_within x12 (-1) (IntKind.i64.wrap ((p0a.2.1.length : Int) - 1)) _ e23  )) rfl rfl ?_
                    rintro u a193 w193 hf A193 S193
                    obtain rfl := Eq.symm hf
                    clear A192 S192 a192 w192
                    refine sv A193 S193 (opT_not (b := r14) rfl rfl) rfl rfl ?_
                    clear A193 S193 a193 w193;intro a194 w194 A194 S194
                    refine wpList_nil ?_
                    replace A194 := A194.pick' (L' := [(3, .int .i64 (p0a.2.1.length : Int)), (5, v3), (30, va1), (31, .int .i64 (p0a.2.2.length : Int)), (32, .int .i64 s11), (36, v3), (37, .int .i64 (x9.length : Int)), (38, .int .i64 s15), (46, .bool (!r14))]) ⟨rfl, rfl, rfl, rfl, rfl, rfl, rfl, rfl, rfl, trivial⟩
                    refine nrm ?_
                    rcases two (r14) with hb26 | hb26
                    · replace hm := ifFe hb26 hm
                      refine cnd_true (b := !r14) A194 rfl rfl (notT hb26) ?_
                      refine wp_seq ?_
                      refine wp_region_lit ?_
                      refine sv A194 S194 (opT_assign (v := .bool false) rfl rfl) rfl rfl ?_
                      clear A194 S194 a194 w194;intro a195 w195 A195 S195
                      refine wpList_nil ?_
                      replace A195 := A195.pick' (L' := [(2, .bool false)]) ⟨rfl, trivial⟩
                      refine nrm ?_
                      refine wp_ret ?_
                      refine blkR ?_
                      refine thenR ?_
                      refine thenR ?_
                      refine blkR ?_
                      refine thenR ?_
                      refine thenR ?_
                      refine blkR ?_
                      refine thenR ?_
                      refine thenR ?_
                      refine blkR ?_
                      refine thenR ?_
                      refine thenR ?_
                      replace hm := loopRet hm hf4 hc4
                      replace hm := loopRet hm hf3 hc3
                      obtain rfl := Option.some.inj hm
                      exact ret_1 A195 rfl (res_tmp A195 rfl) ⟨_, rfl, rfl, _, Hp.le.rfl, St.sel (S195) 1 [0] rfl rfl⟩
                    · replace hm := ifTe hb26 hm
                      refine cnd_false (b := !r14) A194 rfl rfl (notF hb26) ?_
                      refine wp_skip ?_
                      refine nrmB ?_
                      refine nrm ?_
                      refine wp_region_lit ?_
                      refine sv A194 S194 (opT_add (m := s15) (n := 1) rfl rfl rfl) rfl rfl ?_
                      clear A194 S194 a194 w194;intro a196 w196 A196 S196
                      refine sv A196 S196 (opT_move (v := .int .i64 (IntKind.i64.wrap (s15 + 1))) rfl rfl) rfl rfl ?_
                      clear A196 S196 a196 w196;intro a197 w197 A197 S197
                      refine wpList_nil ?_
                      replace A197 := A197.pick' (L' := [(3, .int .i64 (p0a.2.1.length : Int)), (5, v3), (30, va1), (31, .int .i64 (p0a.2.2.length : Int)), (32, .int .i64 s11), (36, v3), (37, .int .i64 (x9.length : Int)), (38, .int .i64 (IntKind.i64.wrap (s15 + 1)))]) ⟨rfl, rfl, rfl, rfl, rfl, rfl, rfl, rfl, trivial⟩
                      refine nrm ?_
                      exact ⟨_, (Option.some.inj hm).symm, ⟨A197.pick' ⟨rfl, rfl, rfl, rfl, rfl, rfl, rfl, rfl, trivial⟩, St.sel S197 1 [0] rfl rfl⟩⟩
              · rintro a198 w198 ⟨s16, ho3, A198, S198⟩
                replace hm := loopOut ho3 hc4
                clear ho3 hc4 hl4
                refine nrm ?_
                refine wp_seq ?_
                refine wp_region_lit ?_
                refine sv A198 S198 (opT_move (v := v3) rfl rfl) rfl rfl ?_
                clear A198 S198 a198 w198;intro a199 w199 A199 S199
                refine sv A199 S199 (opT_len_hd (v := v3) (n := x9.length) (Hd.of_rd r11) Try.underlying34 rfl rfl) rfl rfl ?_
                clear A199 S199 a199 w199;intro a200 w200 A200 S200
                refine sv A200 S200 (opT_cmp (k := .i64) (m := (x9.length : Int)) (n := 9) (c := (x9.length : Int) != 9) rfl rfl rfl rfl rfl) rfl rfl ?_
                clear A200 S200 a200 w200;intro a201 w201 A201 S201
                refine wpList_nil ?_
                replace A201 := A201.pick' (L' := [(3, .int .i64 (p0a.2.1.length : Int)), (30, va1), (31, .int .i64 (p0a.2.2.length : Int)), (32, .int .i64 s11), (50, .bool ((x9.length : Int) != 9))]) ⟨rfl, rfl, rfl, rfl, rfl, trivial⟩
                refine nrm ?_
                rcases two ((x9.length : Int) != 9) with hb27 | hb27
                · replace hm := ifFe hb27 hm
                  refine cnd_false (b := (x9.length : Int) != 9) A201 rfl rfl hb27 ?_
                  refine wp_skip ?_
                  refine nrmB ?_
                  refine nrm ?_
                  refine wp_region_lit ?_
                  refine sv A201 S201 (opT_add (m := s11) (n := 1) rfl rfl rfl) rfl rfl ?_
                  clear A201 S201 a201 w201;intro a202 w202 A202 S202
                  refine sv A202 S202 (opT_move (v := .int .i64 (IntKind.i64.wrap (s11 + 1))) rfl rfl) rfl rfl ?_
                  clear A202 S202 a202 w202;intro a203 w203 A203 S203
                  refine wpList_nil ?_
                  replace A203 := A203.pick' (L' := [(3, .int .i64 (p0a.2.1.length : Int)), (30, va1), (31, .int .i64 (p0a.2.2.length : Int)), (32, .int .i64 (IntKind.i64.wrap (s11 + 1)))]) ⟨rfl, rfl, rfl, rfl, trivial⟩
                  refine nrm ?_
                  exact ⟨_, (Option.some.inj hm).symm, ⟨A203.pick' ⟨rfl, rfl, rfl, rfl, trivial⟩, St.sel S203 1 [0] rfl rfl⟩⟩
                · replace hm := ifTe hb27 hm
                  refine cnd_true (b := (x9.length : Int) != 9) A201 rfl rfl hb27 ?_
                  refine wp_seq ?_
                  refine wp_region_lit ?_
                  refine sv A201 S201 (opT_assign (v := .bool false) rfl rfl) rfl rfl ?_
                  clear A201 S201 a201 w201;intro a204 w204 A204 S204
                  refine wpList_nil ?_
                  replace A204 := A204.pick' (L' := [(2, .bool false)]) ⟨rfl, trivial⟩
                  refine nrm ?_
                  refine wp_ret ?_
                  refine blkR ?_
                  refine thenR ?_
                  refine thenR ?_
                  refine blkR ?_
                  refine thenR ?_
                  refine thenR ?_
                  replace hm := loopRet hm hf3 hc3
                  obtain rfl := Option.some.inj hm
                  exact ret_1 A204 rfl (res_tmp A204 rfl) ⟨_, rfl, rfl, _, Hp.le.rfl, St.sel (S204) 1 [0] rfl rfl⟩
        · rintro a205 w205 ⟨s12, ho4, A205, S205⟩
          replace hm := loopOut ho4 hc3
          clear ho4 hc3 hl3
          refine nrm ?_
          refine wp_seq ?_
          refine wp_region_lit ?_
          refine sv A205 S205 (opT_assign (v := .bool true) rfl rfl) rfl rfl ?_
          clear A205 S205 a205 w205;intro a206 w206 A206 S206
          refine wpList_nil ?_
          replace A206 := A206.pick' (L' := [(2, .bool true)]) ⟨rfl, trivial⟩
          refine nrm ?_
          refine wp_ret ?_
          obtain rfl := Option.some.inj hm
          exact ret_1 A206 rfl (res_tmp A206 rfl) ⟨_, rfl, rfl, _, Hp.le.rfl, St.sel (S206) 1 [0] rfl rfl⟩
      · replace hm := ifTe hb3 hm
        refine cnd_true (b := (p0a.2.2.length : Int) != (p0a.2.1.length : Int)) A46 rfl rfl hb3 ?_
        refine wp_seq ?_
        refine wp_region_lit ?_
        refine sv A46 S46 (opT_assign (v := .bool false) rfl rfl) rfl rfl ?_
        clear A46 S46 a46 w46;intro a207 w207 A207 S207
        refine wpList_nil ?_
        replace A207 := A207.pick' (L' := [(2, .bool false)]) ⟨rfl, trivial⟩
        refine nrm ?_
        refine wp_ret ?_
        refine thenR ?_
        obtain rfl := Option.some.inj hm
        exact ret_1 A207 rfl (res_tmp A207 rfl) ⟨_, rfl, rfl, _, Hp.le.rfl, St.sel (S207) 2 [1] rfl rfl⟩
set_option maxHeartbeats 8000000 in
theorem c_s_l11Fits (p0a : Int × (List Bool) × (List (List Int))) (r : Bool) (hm : m_s_l11Fits p0a = some r) {I : Hp} {w0 : World} (va0 : Value) (va1 : Value) (ra0 : (rSlice 4 rBool).rd I [va0] p0a.2.1) (ra1 : (rSlice 34 (rSlice 3 rInt)).rd I [va1] p0a.2.2) : Con Try.prog 92 #[.agg #[.int .i64 p0a.1, va0, va1]] I w0 [] (fun v => v = .bool r) (fun v => []) := by
  refine con_of_wp (n := 50) [(0, .agg #[.int .i64 p0a.1, va0, va1])] Try.func92 rfl rfl (Nat.le_of_ble_eq_true rfl) (args_all ⟨rfl, trivial⟩) (fun F w a ha hs => ?_) (fun v => trivial)
  unfold m_s_l11Fits at hm
  refine wp_seq ?_
  refine wp_region_lit ?_
  refine seq_op ha hs rfl (opT_box (u := .agg #[.int .i64 p0a.1, va0, va1]) (l := [.int .i64 p0a.1, va0, va1]) rfl rfl rfl) (List.Perm.refl _) rfl ?_
  rintro _ a1 w1 ⟨g1, rfl⟩ A1 (S1 : St I w0 w1 [Ch.blk g1 [.int .i64 p0a.1, va0, va1] 27, F])
  clear ha hs a w
  refine sv A1 S1 (opT_assign (v := .bool false) rfl rfl) rfl rfl ?_
  clear A1 S1 a1 w1;intro a2 w2 A2 S2
  refine wpList_nil ?_
  replace A2 := A2.pick' (L' := [(1, .pointer (some ⟨g1, 0, none⟩))]) ⟨rfl, trivial⟩
  refine nrm ?_
  refine wp_seq ?_
  refine wp_region_lit ?_
  refine sv A2 S2 (opT_field_addr (g := g1) (b := 0) tf27_1 rfl rfl) rfl rfl ?_
  clear A2 S2 a2 w2;intro a3 w3 A3 S3
  refine seq_op A3 S3 rfl (opT_load_blk (g := g1) (off := 1) (E := 27) (l := [.int .i64 p0a.1, va0, va1]) (d := [va0]) (u := va0) ti22 rfl rfl rfl rfl rfl rfl) (perm_front (i := 0) rfl) rfl ?_
  rintro u a4 w4 hf A4 (S4 : St I w0 w4 [Ch.blk g1 [.int .i64 p0a.1, va0, va1] 27, F])
  obtain rfl := Eq.symm hf
  clear A3 S3 a3 w3
  refine sv A4 S4 (opT_len_hd (v := va0) (n := p0a.2.1.length) (Hd.of_rd ra0) Try.underlying22 rfl rfl) rfl rfl ?_
  clear A4 S4 a4 w4;intro a5 w5 A5 S5
  refine sv A5 S5 (opT_assign (v := .int .i64 (p0a.2.1.length : Int)) rfl rfl) rfl rfl ?_
  clear A5 S5 a5 w5;intro a6 w6 A6 S6
  refine wpList_nil ?_
  replace A6 := A6.pick' (L' := [(1, .pointer (some ⟨g1, 0, none⟩)), (3, .int .i64 (p0a.2.1.length : Int))]) ⟨rfl, rfl, trivial⟩
  refine nrm ?_
  refine wp_seq ?_
  refine wp_seq ?_
  refine wp_region_lit ?_
  refine sv A6 S6 (opT_field_addr (g := g1) (b := 0) tf27_0 rfl rfl) rfl rfl ?_
  clear A6 S6 a6 w6;intro a7 w7 A7 S7
  refine seq_op A7 S7 rfl (opT_load_blk (g := g1) (off := 0) (E := 27) (l := [.int .i64 p0a.1, va0, va1]) (d := [.int .i64 p0a.1]) (u := .int .i64 p0a.1) ti3 rfl rfl rfl rfl rfl rfl) (perm_front (i := 0) rfl) rfl ?_
  rintro u a8 w8 hf A8 (S8 : St I w0 w8 [Ch.blk g1 [.int .i64 p0a.1, va0, va1] 27, F])
  obtain rfl := Eq.symm hf
  clear A7 S7 a7 w7
  refine sv A8 S8 (opT_move (v := .int .i64 (p0a.2.1.length : Int)) rfl rfl) rfl rfl ?_
  clear A8 S8 a8 w8;intro a9 w9 A9 S9
  refine sv A9 S9 (opT_sub (m := (p0a.2.1.length : Int)) (n := 1) rfl rfl rfl) rfl rfl ?_
  clear A9 S9 a9 w9;intro a10 w10 A10 S10
  obtain ⟨r1, e1, hm⟩ := bind_some hm
  refine seq_op0 A10 S10 (opT_call (args := #[.int .i64 p0a.1, .int .i64 0, .int .i64 (IntKind.i64.wrap ((p0a.2.1.length : Int) - 1))]) (first := #[]) (captured := #[]) en146 rfl rfl rfl (c_s_l1In p0a.1 0 (IntKind.i64.wrap ((p0a.2.1.length : Int) - 1)) _ e1  )) rfl rfl ?_
  rintro u a11 w11 hf A11 S11
  obtain rfl := Eq.symm hf
  clear A10 S10 a10 w10
  refine sv A11 S11 (opT_not (b := r1) rfl rfl) rfl rfl ?_
  clear A11 S11 a11 w11;intro a12 w12 A12 S12
  refine sv A12 S12 (opT_move (v := .bool (!r1)) rfl rfl) rfl rfl ?_
  clear A12 S12 a12 w12;intro a13 w13 A13 S13
  rcases two (r1) with hb1 | hb1
  · replace hm := ifFe hb1 hm
    refine seq_skip (g := 6) (d := 15) (want := false) (b := !r1) A13 S13 rfl rfl rfl (notT hb1) rfl ?_
    intro a14 A14
    refine seq_skip (g := 6) (d := 15) (want := false) (b := !r1) A14 S13 rfl rfl rfl (notT hb1) rfl ?_
    intro a15 A15
    refine seq_skip (g := 6) (d := 15) (want := false) (b := !r1) A15 S13 rfl rfl rfl (notT hb1) rfl ?_
    intro a16 A16
    refine seq_skip (g := 6) (d := 15) (want := false) (b := !r1) A16 S13 rfl rfl rfl (notT hb1) rfl ?_
    intro a17 A17
    refine seq_skip (g := 6) (d := 15) (want := false) (b := !r1) A17 S13 rfl rfl rfl (notT hb1) rfl ?_
    intro a18 A18
    refine sv A18 S13 (opT_pick (b := !r1) (v := .bool true) rfl rfl (ifT (notT hb1))) rfl rfl ?_
    clear A18 S13 a18 w13;intro a19 w19 A19 S19
    refine wpList_nil ?_
    replace A19 := A19.pick' (L' := [(1, .pointer (some ⟨g1, 0, none⟩)), (3, .int .i64 (p0a.2.1.length : Int)), (21, .bool true)]) ⟨rfl, rfl, rfl, trivial⟩
    refine nrm ?_
    refine cnd_true (b := true) A19 rfl rfl rfl ?_
    refine wp_seq ?_
    refine wp_region_lit ?_
    refine sv A19 S19 (opT_assign (v := .bool false) rfl rfl) rfl rfl ?_
    clear A19 S19 a19 w19;intro a20 w20 A20 S20
    refine wpList_nil ?_
    replace A20 := A20.pick' (L' := [(2, .bool false)]) ⟨rfl, trivial⟩
    refine nrm ?_
    refine wp_ret ?_
    refine thenR ?_
    obtain rfl := Option.some.inj hm
    exact ret_1 A20 rfl (res_tmp A20 rfl) ⟨_, rfl, rfl, _, Hp.le.rfl, St.sel (S20) 2 [1] rfl rfl⟩
  · replace hm := ifTe hb1 hm
    refine svg (g := 6) (d := 15) (want := false) (b := !r1) A13 S13 rfl rfl rfl (notF hb1) (opT_field_addr (g := g1) (b := 0) tf27_2 rfl rfl) rfl ?_
    clear A13 S13 a13 w13;intro a21 w21 A21 S21
    refine seq_op_g (g := 6) (d := 15) (want := false) (b := !r1) A21 S21 rfl rfl rfl (notF hb1) (opT_load_blk (g := g1) (off := 2) (E := 27) (l := [.int .i64 p0a.1, va0, va1]) (d := [va1]) (u := va1) ti23 rfl rfl rfl rfl rfl rfl) (perm_front (i := 0) rfl) rfl ?_
    rintro u a22 w22 hf A22 (S22 : St I w0 w22 [Ch.blk g1 [.int .i64 p0a.1, va0, va1] 27, F])
    obtain rfl := Eq.symm hf
    clear A21 S21 a21 w21
    refine svg (g := 6) (d := 15) (want := false) (b := !r1) A22 S22 rfl rfl rfl (notF hb1) (opT_len_hd (v := va1) (n := p0a.2.2.length) (Hd.of_rd ra1) Try.underlying23 rfl rfl) rfl ?_
    clear A22 S22 a22 w22;intro a23 w23 A23 S23
    refine svg (g := 6) (d := 15) (want := false) (b := !r1) A23 S23 rfl rfl rfl (notF hb1) (opT_move (v := .int .i64 (p0a.2.1.length : Int)) rfl rfl) rfl ?_
    clear A23 S23 a23 w23;intro a24 w24 A24 S24
    refine svg (g := 6) (d := 15) (want := false) (b := !r1) A24 S24 rfl rfl rfl (notF hb1) (opT_cmp (k := .i64) (m := (p0a.2.2.length : Int)) (n := (p0a.2.1.length : Int)) (c := (p0a.2.2.length : Int) != (p0a.2.1.length : Int)) rfl rfl rfl rfl rfl) rfl ?_
    clear A24 S24 a24 w24;intro a25 w25 A25 S25
    refine sv A25 S25 (opT_pick (b := !r1) (v := .bool ((p0a.2.2.length : Int) != (p0a.2.1.length : Int))) rfl rfl (ifF (notF hb1))) rfl rfl ?_
    clear A25 S25 a25 w25;intro a26 w26 A26 S26
    refine wpList_nil ?_
    replace A26 := A26.pick' (L' := [(1, .pointer (some ⟨g1, 0, none⟩)), (3, .int .i64 (p0a.2.1.length : Int)), (21, .bool ((p0a.2.2.length : Int) != (p0a.2.1.length : Int)))]) ⟨rfl, rfl, rfl, trivial⟩
    refine nrm ?_
    rcases two ((p0a.2.2.length : Int) != (p0a.2.1.length : Int)) with hb2 | hb2
    · replace hm := ifFe hb2 hm
      refine cnd_false (b := (p0a.2.2.length : Int) != (p0a.2.1.length : Int)) A26 rfl rfl hb2 ?_
      refine wp_skip ?_
      refine nrm ?_
      refine wp_seq ?_
      refine wp_seq ?_
      refine wp_region_lit ?_
      refine sv A26 S26 (opT_assign (v := .int .i64 0) rfl rfl) rfl rfl ?_
      clear A26 S26 a26 w26;intro a27 w27 A27 S27
      refine wpList_nil ?_
      replace A27 := A27.pick' (L' := [(1, .pointer (some ⟨g1, 0, none⟩)), (3, .int .i64 (p0a.2.1.length : Int)), (4, .int .i64 0)]) ⟨rfl, rfl, rfl, trivial⟩
      refine nrm ?_
      obtain ⟨o5, hl3, hc3⟩ := bindL_some hm
      refine wp_cut (fun a w => ∃ s12 : Int, o5 = .brk s12 ∧ Agr 50 a [] ∧ St I w0 w [F]) ?_ ?_
      · refine wp_block (wp_loopM (R := Bool) (S := Int) (fun s11 a w => Agr 50 a [(1, .pointer (some ⟨g1, 0, none⟩)), (3, .int .i64 (p0a.2.1.length : Int)), (4, .int .i64 s11)] ∧ St I w0 w [Ch.blk g1 [.int .i64 p0a.1, va0, va1] 27, F]) hl3 ?_ ?_)
        · exact ⟨A27.pick' ⟨rfl, rfl, rfl, trivial⟩, St.sel S27 2 [0, 1] rfl rfl⟩
        · rintro s11 o6 hm hf3 a170 w170 ⟨A170, S170⟩
          unfold m_s_l11Fits_l0 at hm
          refine wp_seq ?_
          refine wp_seq ?_
          refine wp_region_lit ?_
          refine sv A170 S170 (opT_move (v := .int .i64 s11) rfl rfl) rfl rfl ?_
          clear A170 S170 a170 w170;intro a171 w171 A171 S171
          refine sv A171 S171 (opT_move (v := .int .i64 (p0a.2.1.length : Int)) rfl rfl) rfl rfl ?_
          clear A171 S171 a171 w171;intro a172 w172 A172 S172
          refine sv A172 S172 (opT_cmp (k := .i64) (m := s11) (n := (p0a.2.1.length : Int)) (c := decide (s11 < (p0a.2.1.length : Int))) rfl rfl rfl rfl rfl) rfl rfl ?_
          clear A172 S172 a172 w172;intro a173 w173 A173 S173
          refine wpList_nil ?_
          replace A173 := A173.pick' (L' := [(1, .pointer (some ⟨g1, 0, none⟩)), (3, .int .i64 (p0a.2.1.length : Int)), (4, .int .i64 s11), (24, .bool (decide (s11 < (p0a.2.1.length : Int))))]) ⟨rfl, rfl, rfl, rfl, trivial⟩
          refine nrm ?_
          rcases two (decide (s11 < (p0a.2.1.length : Int))) with hb19 | hb19
          · replace hm := ifFe hb19 hm
            refine cnd_false (b := decide (s11 < (p0a.2.1.length : Int))) A173 rfl rfl hb19 ?_
            refine wp_exit ?_
            refine thenX ?_
            refine thenX ?_
            refine ex_in ?_
            refine nrm ?_
            exact ⟨_, loopBrk hm hf3, ⟨A173.pick' trivial, St.sel S173 2 [1] rfl rfl⟩⟩
          · replace hm := ifTe hb19 hm
            refine cnd_true (b := decide (s11 < (p0a.2.1.length : Int))) A173 rfl rfl hb19 ?_
            refine wp_skip ?_
            refine nrm ?_
            refine wp_seq ?_
            refine wp_block ?_
            refine wp_seq ?_
            refine wp_seq ?_
            refine wp_region_lit ?_
            refine sv A173 S173 (opT_field_addr (g := g1) (b := 0) tf27_2 rfl rfl) rfl rfl ?_
            clear A173 S173 a173 w173;intro a174 w174 A174 S174
            refine seq_op A174 S174 rfl (opT_load_blk (g := g1) (off := 2) (E := 27) (l := [.int .i64 p0a.1, va0, va1]) (d := [va1]) (u := va1) ti23 rfl rfl rfl rfl rfl rfl) (perm_front (i := 0) rfl) rfl ?_
            rintro u a175 w175 hf A175 (S175 : St I w0 w175 [Ch.blk g1 [.int .i64 p0a.1, va0, va1] 27, F])
            obtain rfl := Eq.symm hf
            clear A174 S174 a174 w174
            refine sv A175 S175 (opT_move (v := .int .i64 s11) rfl rfl) rfl rfl ?_
            clear A175 S175 a175 w175;intro a176 w176 A176 S176
            obtain ⟨x15, e22, hm⟩ := bind_some hm
            refine sv A176 S176 (opT_index_hd (xs := p0a.2.2) (i := s11) (n := 1) (Hd.of_rd ra1) Try.underlying23 ti34 rfl rfl rfl (getI_in e22)) rfl rfl ?_
            clear A176 S176 a176 w176;intro a177 w177 A177 S177
            refine seq_op0 A177 S177 (opT_load_el (S := rSlice 3 rInt) (xs := p0a.2.2) (a := x15) (i := s11) (k := 1) (off := 0) (f := fun (x : List Int) => x) ra1 e22 Fld.self ti34 rfl rfl rfl rfl rfl) rfl rfl ?_
            rintro v9 a178 w178 hf A178 S178
            have r16 := lds_sl hf
            clear hf
            clear A177 S177 a177 w177
            refine sv A178 S178 (opT_len_hd (v := v9) (n := x15.length) (Hd.of_rd r16) Try.underlying34 rfl rfl) rfl rfl ?_
            clear A178 S178 a178 w178;intro a179 w179 A179 S179
            refine sv A179 S179 (opT_cmp (k := .i64) (m := (x15.length : Int)) (n := 9) (c := (x15.length : Int) != 9) rfl rfl rfl rfl rfl) rfl rfl ?_
            clear A179 S179 a179 w179;intro a180 w180 A180 S180
            refine wpList_nil ?_
            replace A180 := A180.pick' (L' := [(1, .pointer (some ⟨g1, 0, none⟩)), (3, .int .i64 (p0a.2.1.length : Int)), (4, .int .i64 s11), (33, .bool ((x15.length : Int) != 9))]) ⟨rfl, rfl, rfl, rfl, trivial⟩
            refine nrm ?_
            rcases two ((x15.length : Int) != 9) with hb20 | hb20
            · replace hm := ifFe hb20 hm
              refine cnd_false (b := (x15.length : Int) != 9) A180 rfl rfl hb20 ?_
              refine wp_skip ?_
              refine nrm ?_
              refine wp_seq ?_
              refine wp_region_lit ?_
              refine sv A180 S180 (opT_assign (v := .int .i64 0) rfl rfl) rfl rfl ?_
              clear A180 S180 a180 w180;intro a181 w181 A181 S181
              refine wpList_nil ?_
              replace A181 := A181.pick' (L' := [(1, .pointer (some ⟨g1, 0, none⟩)), (3, .int .i64 (p0a.2.1.length : Int)), (4, .int .i64 s11), (5, .int .i64 0)]) ⟨rfl, rfl, rfl, rfl, trivial⟩
              refine nrm ?_
              obtain ⟨o7, hl4, hc4⟩ := bindL_some hm
              refine wp_cut (fun a w => ∃ s16 : Int, o7 = .brk s16 ∧ Agr 50 a [(1, .pointer (some ⟨g1, 0, none⟩)), (3, .int .i64 (p0a.2.1.length : Int)), (4, .int .i64 s11)] ∧ St I w0 w [Ch.blk g1 [.int .i64 p0a.1, va0, va1] 27, F]) ?_ ?_
              · refine wp_block (wp_loopM (R := Bool) (S := Int) (fun s15 a w => Agr 50 a [(1, .pointer (some ⟨g1, 0, none⟩)), (3, .int .i64 (p0a.2.1.length : Int)), (4, .int .i64 s11), (5, .int .i64 s15)] ∧ St I w0 w [Ch.blk g1 [.int .i64 p0a.1, va0, va1] 27, F]) hl4 ?_ ?_)
                · exact ⟨A181.pick' ⟨rfl, rfl, rfl, rfl, trivial⟩, St.sel S181 2 [0, 1] rfl rfl⟩
                · rintro s15 o8 hm hf4 a218 w218 ⟨A218, S218⟩
                  unfold m_s_l11Fits_l1 at hm
                  refine wp_seq ?_
                  refine wp_seq ?_
                  refine wp_region_lit ?_
                  refine sv A218 S218 (opT_move (v := .int .i64 s15) rfl rfl) rfl rfl ?_
                  clear A218 S218 a218 w218;intro a219 w219 A219 S219
                  refine sv A219 S219 (opT_cmp (k := .i64) (m := s15) (n := 9) (c := decide (s15 < 9)) rfl rfl rfl rfl rfl) rfl rfl ?_
                  clear A219 S219 a219 w219;intro a220 w220 A220 S220
                  refine wpList_nil ?_
                  replace A220 := A220.pick' (L' := [(1, .pointer (some ⟨g1, 0, none⟩)), (3, .int .i64 (p0a.2.1.length : Int)), (4, .int .i64 s11), (5, .int .i64 s15), (35, .bool (decide (s15 < 9)))]) ⟨rfl, rfl, rfl, rfl, rfl, trivial⟩
                  refine nrm ?_
                  rcases two (decide (s15 < 9)) with hb25 | hb25
                  · replace hm := ifFe hb25 hm
                    refine cnd_false (b := decide (s15 < 9)) A220 rfl rfl hb25 ?_
                    refine wp_exit ?_
                    refine thenX ?_
                    refine thenX ?_
                    refine ex_in ?_
                    refine nrm ?_
                    exact ⟨_, loopBrk hm hf4, ⟨A220.pick' ⟨rfl, rfl, rfl, trivial⟩, St.sel S220 2 [0, 1] rfl rfl⟩⟩
                  · replace hm := ifTe hb25 hm
                    refine cnd_true (b := decide (s15 < 9)) A220 rfl rfl hb25 ?_
                    refine wp_skip ?_
                    refine nrm ?_
                    refine wp_seq ?_
                    refine wp_block ?_
                    refine wp_seq ?_
                    refine wp_region_lit ?_
                    refine sv A220 S220 (opT_field_addr (g := g1) (b := 0) tf27_2 rfl rfl) rfl rfl ?_
                    clear A220 S220 a220 w220;intro a221 w221 A221 S221
                    refine seq_op A221 S221 rfl (opT_load_blk (g := g1) (off := 2) (E := 27) (l := [.int .i64 p0a.1, va0, va1]) (d := [va1]) (u := va1) ti23 rfl rfl rfl rfl rfl rfl) (perm_front (i := 0) rfl) rfl ?_
                    rintro u a222 w222 hf A222 (S222 : St I w0 w222 [Ch.blk g1 [.int .i64 p0a.1, va0, va1] 27, F])
                    obtain rfl := Eq.symm hf
                    clear A221 S221 a221 w221
                    refine sv A222 S222 (opT_move (v := .int .i64 s11) rfl rfl) rfl rfl ?_
                    clear A222 S222 a222 w222;intro a223 w223 A223 S223
                    obtain ⟨x20, e29, hm⟩ := bind_some hm
                    refine sv A223 S223 (opT_index_hd (xs := p0a.2.2) (i := s11) (n := 1) (Hd.of_rd ra1) Try.underlying23 ti34 rfl rfl rfl (getI_in e29)) rfl rfl ?_
                    clear A223 S223 a223 w223;intro a224 w224 A224 S224
                    refine seq_op0 A224 S224 (opT_load_el (S := rSlice 3 rInt) (xs := p0a.2.2) (a := x20) (i := s11) (k := 1) (off := 0) (f := fun (x : List Int) => x) ra1 e29 Fld.self ti34 rfl rfl rfl rfl rfl) rfl rfl ?_
                    rintro v12 a225 w225 hf A225 S225
                    have r21 := lds_sl hf
                    clear hf
                    clear A224 S224 a224 w224
                    refine sv A225 S225 (opT_move (v := .int .i64 s15) rfl rfl) rfl rfl ?_
                    clear A225 S225 a225 w225;intro a226 w226 A226 S226
                    obtain ⟨x21, e30, hm⟩ := bind_some hm
                    refine sv A226 S226 (opT_index_hd (xs := x20) (i := s15) (n := 1) (Hd.of_rd r21) Try.underlying34 ti3 rfl rfl rfl (getI_in e30)) rfl rfl ?_
                    clear A226 S226 a226 w226;intro a227 w227 A227 S227
                    refine seq_op0 A227 S227 (opT_load_el (S := rInt) (xs := x20) (a := x21) (i := s15) (k := 1) (off := 0) (f := fun (x : Int) => x) r21 e30 Fld.self ti3 rfl rfl rfl rfl rfl) rfl rfl ?_
                    rintro u a228 w228 hf A228 S228
                    obtain rfl := lds_one hf
                    clear A227 S227 a227 w227
                    refine sv A228 S228 (opT_move (v := .int .i64 (p0a.2.1.length : Int)) rfl rfl) rfl rfl ?_
                    clear A228 S228 a228 w228;intro a229 w229 A229 S229
                    refine sv A229 S229 (opT_sub (m := (p0a.2.1.length : Int)) (n := 1) rfl rfl rfl) rfl rfl ?_
                    clear A229 S229 a229 w229;intro a230 w230 A230 S230
                    obtain ⟨r22, e31, hm⟩ := bind_some hm
                    refine seq_op0 A230 S230 (opT_call (args := #[.int .i64 x21, .int .i64 (-1), .int .i64 (IntKind.i64.wrap ((p0a.2.1.length : Int) - 1))]) (first := #[]) (captured := #[]) en146 rfl rfl rfl (c_s_l1In x21 (-1) (IntKind.i64.wrap ((p0a.2.1.length : Int) - 1)) _ e31  )) rfl rfl ?_
                    rintro u a231 w231 hf A231 S231
                    obtain rfl := Eq.symm hf
                    clear A230 S230 a230 w230
                    refine sv A231 S231 (opT_not (b := r22) rfl rfl) rfl rfl ?_
                    clear A231 S231 a231 w231;intro a232 w232 A232 S232
                    refine wpList_nil ?_
                    replace A232 := A232.pick' (L' := [(1, .pointer (some ⟨g1, 0, none⟩)), (3, .int .i64 (p0a.2.1.length : Int)), (4, .int .i64 s11), (5, .int .i64 s15), (49, .bool (!r22))]) ⟨rfl, rfl, rfl, rfl, rfl, trivial⟩
                    refine nrm ?_
                    rcases two (r22) with hb26 | hb26
                    · replace hm := ifFe hb26 hm
                      refine cnd_true (b := !r22) A232 rfl rfl (notT hb26) ?_
                      refine wp_seq ?_
                      refine wp_region_lit ?_
                      refine sv A232 S232 (opT_assign (v := .bool false) rfl rfl) rfl rfl ?_
                      clear A232 S232 a232 w232;intro a233 w233 A233 S233
                      refine wpList_nil ?_
                      replace A233 := A233.pick' (L' := [(2, .bool false)]) ⟨rfl, trivial⟩
                      refine nrm ?_
                      refine wp_ret ?_
                      refine blkR ?_
                      refine thenR ?_
                      refine thenR ?_
                      refine blkR ?_
                      refine thenR ?_
                      refine blkR ?_
                      refine thenR ?_
                      refine thenR ?_
                      refine blkR ?_
                      refine thenR ?_
                      refine thenR ?_
                      replace hm := loopRet hm hf4 hc4
                      replace hm := loopRet hm hf3 hc3
                      obtain rfl := Option.some.inj hm
                      exact ret_1 A233 rfl (res_tmp A233 rfl) ⟨_, rfl, rfl, _, Hp.le.rfl, St.sel (S233) 2 [1] rfl rfl⟩
                    · replace hm := ifTe hb26 hm
                      refine cnd_false (b := !r22) A232 rfl rfl (notF hb26) ?_
                      refine wp_skip ?_
                      refine nrmB ?_
                      refine nrm ?_
                      refine wp_region_lit ?_
                      refine sv A232 S232 (opT_move (v := .int .i64 s15) rfl rfl) rfl rfl ?_
                      clear A232 S232 a232 w232;intro a234 w234 A234 S234
                      refine sv A234 S234 (opT_add (m := s15) (n := 1) rfl rfl rfl) rfl rfl ?_
                      clear A234 S234 a234 w234;intro a235 w235 A235 S235
                      refine sv A235 S235 (opT_assign (v := .int .i64 (IntKind.i64.wrap (s15 + 1))) rfl rfl) rfl rfl ?_
                      clear A235 S235 a235 w235;intro a236 w236 A236 S236
                      refine wpList_nil ?_
                      replace A236 := A236.pick' (L' := [(1, .pointer (some ⟨g1, 0, none⟩)), (3, .int .i64 (p0a.2.1.length : Int)), (4, .int .i64 s11), (5, .int .i64 (IntKind.i64.wrap (s15 + 1)))]) ⟨rfl, rfl, rfl, rfl, trivial⟩
                      refine nrm ?_
                      exact ⟨_, (Option.some.inj hm).symm, ⟨A236.pick' ⟨rfl, rfl, rfl, rfl, trivial⟩, St.sel S236 2 [0, 1] rfl rfl⟩⟩
              · rintro a237 w237 ⟨s16, ho3, A237, S237⟩
                replace hm := loopOut ho3 hc4
                clear ho3 hc4 hl4
                refine nrmB ?_
                refine nrm ?_
                refine wp_region_lit ?_
                refine sv A237 S237 (opT_move (v := .int .i64 s11) rfl rfl) rfl rfl ?_
                clear A237 S237 a237 w237;intro a238 w238 A238 S238
                refine sv A238 S238 (opT_add (m := s11) (n := 1) rfl rfl rfl) rfl rfl ?_
                clear A238 S238 a238 w238;intro a239 w239 A239 S239
                refine sv A239 S239 (opT_assign (v := .int .i64 (IntKind.i64.wrap (s11 + 1))) rfl rfl) rfl rfl ?_
                clear A239 S239 a239 w239;intro a240 w240 A240 S240
                refine wpList_nil ?_
                replace A240 := A240.pick' (L' := [(1, .pointer (some ⟨g1, 0, none⟩)), (3, .int .i64 (p0a.2.1.length : Int)), (4, .int .i64 (IntKind.i64.wrap (s11 + 1)))]) ⟨rfl, rfl, rfl, trivial⟩
                refine nrm ?_
                exact ⟨_, (Option.some.inj hm).symm, ⟨A240.pick' ⟨rfl, rfl, rfl, trivial⟩, St.sel S240 2 [0, 1] rfl rfl⟩⟩
            · replace hm := ifTe hb20 hm
              refine cnd_true (b := (x15.length : Int) != 9) A180 rfl rfl hb20 ?_
              refine wp_seq ?_
              refine wp_region_lit ?_
              refine sv A180 S180 (opT_assign (v := .bool false) rfl rfl) rfl rfl ?_
              clear A180 S180 a180 w180;intro a241 w241 A241 S241
              refine wpList_nil ?_
              replace A241 := A241.pick' (L' := [(2, .bool false)]) ⟨rfl, trivial⟩
              refine nrm ?_
              refine wp_ret ?_
              refine thenR ?_
              refine blkR ?_
              refine thenR ?_
              refine thenR ?_
              refine blkR ?_
              refine thenR ?_
              refine thenR ?_
              replace hm := loopRet hm hf3 hc3
              obtain rfl := Option.some.inj hm
              exact ret_1 A241 rfl (res_tmp A241 rfl) ⟨_, rfl, rfl, _, Hp.le.rfl, St.sel (S241) 2 [1] rfl rfl⟩
      · rintro a242 w242 ⟨s12, ho4, A242, S242⟩
        replace hm := loopOut ho4 hc3
        clear ho4 hc3 hl3
        refine nrm ?_
        refine wp_seq ?_
        refine wp_region_lit ?_
        refine sv A242 S242 (opT_assign (v := .bool true) rfl rfl) rfl rfl ?_
        clear A242 S242 a242 w242;intro a243 w243 A243 S243
        refine wpList_nil ?_
        replace A243 := A243.pick' (L' := [(2, .bool true)]) ⟨rfl, trivial⟩
        refine nrm ?_
        refine wp_ret ?_
        obtain rfl := Option.some.inj hm
        exact ret_1 A243 rfl (res_tmp A243 rfl) ⟨_, rfl, rfl, _, Hp.le.rfl, St.sel (S243) 1 [0] rfl rfl⟩
    · replace hm := ifTe hb2 hm
      refine cnd_true (b := (p0a.2.2.length : Int) != (p0a.2.1.length : Int)) A26 rfl rfl hb2 ?_
      refine wp_seq ?_
      refine wp_region_lit ?_
      refine sv A26 S26 (opT_assign (v := .bool false) rfl rfl) rfl rfl ?_
      clear A26 S26 a26 w26;intro a244 w244 A244 S244
      refine wpList_nil ?_
      replace A244 := A244.pick' (L' := [(2, .bool false)]) ⟨rfl, trivial⟩
      refine nrm ?_
      refine wp_ret ?_
      refine thenR ?_
      obtain rfl := Option.some.inj hm
      exact ret_1 A244 rfl (res_tmp A244 rfl) ⟨_, rfl, rfl, _, Hp.le.rfl, St.sel (S244) 2 [1] rfl rfl⟩
set_option maxHeartbeats 8000000 in
theorem c_w_toIntSS (p0a : List (List Int)) (r : List (List Int)) (hm : m_w_toIntSS p0a = some r) {I : Hp} {w0 : World} (va0 : Value) (ra0 : (rSlice 34 (rSlice 3 rInt)).rd I [va0] p0a) : Con Try.prog 50 #[va0] I w0 [] (fun v => True) (fun v => [Ch.own (rSlice 34 (rSlice 3 rInt)) [v] r]) := by
  refine con_of_wp (n := 23) [(0, va0)] Try.func50 rfl rfl (Nat.le_of_ble_eq_true rfl) (args_all ⟨rfl, trivial⟩) (fun F w a ha hs => ?_) (fun v => ⟨dp_own (dp_slice (dp_slice dp_int)), trivial⟩)
  unfold m_w_toIntSS at hm
  refine wp_seq ?_
  refine wp_region_lit ?_
  refine sv ha hs (opT_assign (v := .slice none 0 0) rfl rfl) rfl rfl ?_
  clear ha hs a w;intro a1 w1 A1 S1
  refine wpList_nil ?_
  replace A1 := A1.pick' (L' := [(0, va0)]) ⟨rfl, trivial⟩
  refine nrm ?_
  refine wp_seq ?_
  refine wp_region_lit ?_
  refine sv A1 S1 (opT_move (v := va0) rfl rfl) rfl rfl ?_
  clear A1 S1 a1 w1;intro a2 w2 A2 S2
  refine sv A2 S2 (opT_len_hd (v := va0) (n := p0a.length) (Hd.of_rd ra0) Try.underlying23 rfl rfl) rfl rfl ?_
  clear A2 S2 a2 w2;intro a3 w3 A3 S3
  obtain ⟨x1, hk1, hm⟩ := bind_some hm
  refine seq_op A3 S3 rfl (opT_mk (E := 34) (R := rSlice 3 rInt) (zv := .slice none 0 0) (z := ([] : List Int)) zro_nil Try.underlying23 tz34 rfl rfl (by decide) (by decide) rfl rfl hk1) (List.Perm.refl _) rfl ?_
  rintro v1 a4 w4 - A4 (S4 : St I w0 w4 [Ch.own (rSlice 34 (rSlice 3 rInt)) [v1] x1, F])
  clear A3 S3 a3 w3
  refine sv A4 S4 (opT_assign (v := v1) rfl rfl) rfl rfl ?_
  clear A4 S4 a4 w4;intro a5 w5 A5 S5
  refine wpList_nil ?_
  replace A5 := A5.pick' (L' := [(0, va0), (3, v1)]) ⟨rfl, rfl, trivial⟩
  refine nrm ?_
  refine wp_seq ?_
  refine wp_seq ?_
  refine wp_region_lit ?_
  refine sv A5 S5 (opT_assign (v := .int .i64 0) rfl rfl) rfl rfl ?_
  clear A5 S5 a5 w5;intro a6 w6 A6 S6
  refine wpList_nil ?_
  replace A6 := A6.pick' (L' := [(0, va0), (3, v1), (4, .int .i64 0)]) ⟨rfl, rfl, rfl, trivial⟩
  refine nrm ?_
  obtain ⟨o1, hl1, hc1⟩ := bindL_some hm
  refine wp_cut (fun a w => ∃ s4 : (List (List Int)) × Int, o1 = .brk s4 ∧ Agr 23 a [(3, v1)] ∧ St I w0 w [Ch.own (rSlice 34 (rSlice 3 rInt)) [v1] s4.1, F]) ?_ ?_
  · refine wp_block (wp_loopM (R := List (List Int)) (S := (List (List Int)) × Int) (fun s3 a w => Agr 23 a [(0, va0), (3, v1), (4, .int .i64 s3.2)] ∧ St I w0 w [Ch.own (rSlice 34 (rSlice 3 rInt)) [v1] s3.1, F]) hl1 ?_ ?_)
    · exact ⟨A6.pick' ⟨rfl, rfl, rfl, trivial⟩, St.sel S6 2 [0, 1] rfl rfl⟩
    · rintro s3 o2 hm hf1 a39 w39 ⟨A39, S39⟩
      unfold m_w_toIntSS_l0 at hm
      refine wp_seq ?_
      refine wp_seq ?_
      refine wp_region_lit ?_
      refine sv A39 S39 (opT_move (v := .int .i64 s3.2) rfl rfl) rfl rfl ?_
      clear A39 S39 a39 w39;intro a40 w40 A40 S40
      refine sv A40 S40 (opT_move (v := va0) rfl rfl) rfl rfl ?_
      clear A40 S40 a40 w40;intro a41 w41 A41 S41
      refine sv A41 S41 (opT_len_hd (v := va0) (n := p0a.length) (Hd.of_rd ra0) Try.underlying23 rfl rfl) rfl rfl ?_
      clear A41 S41 a41 w41;intro a42 w42 A42 S42
      refine sv A42 S42 (opT_cmp (k := .i64) (m := s3.2) (n := (p0a.length : Int)) (c := decide (s3.2 < (p0a.length : Int))) rfl rfl rfl rfl rfl) rfl rfl ?_
      clear A42 S42 a42 w42;intro a43 w43 A43 S43
      refine wpList_nil ?_
      replace A43 := A43.pick' (L' := [(0, va0), (3, v1), (4, .int .i64 s3.2), (11, .bool (decide (s3.2 < (p0a.length : Int))))]) ⟨rfl, rfl, rfl, rfl, trivial⟩
      refine nrm ?_
      rcases two (decide (s3.2 < (p0a.length : Int))) with hb3 | hb3
      · replace hm := ifFe hb3 hm
        refine cnd_false (b := decide (s3.2 < (p0a.length : Int))) A43 rfl rfl hb3 ?_
        refine wp_exit ?_
        refine thenX ?_
        refine thenX ?_
        refine ex_in ?_
        refine nrm ?_
        exact ⟨_, loopBrk hm hf1, ⟨A43.pick' ⟨rfl, trivial⟩, St.sel S43 2 [0, 1] rfl rfl⟩⟩
      · replace hm := ifTe hb3 hm
        refine cnd_true (b := decide (s3.2 < (p0a.length : Int))) A43 rfl rfl hb3 ?_
        refine wp_skip ?_
        refine nrm ?_
        refine wp_seq ?_
        refine wp_block ?_
        refine wp_region_lit ?_
        refine sv A43 S43 (opT_move (v := v1) rfl rfl) rfl rfl ?_
        clear A43 S43 a43 w43;intro a44 w44 A44 S44
        refine sv A44 S44 (opT_move (v := .int .i64 s3.2) rfl rfl) rfl rfl ?_
        clear A44 S44 a44 w44;intro a45 w45 A45 S45
        refine sv A45 S45 (opT_move (v := va0) rfl rfl) rfl rfl ?_
        clear A45 S45 a45 w45;intro a46 w46 A46 S46
        refine sv A46 S46 (opT_move (v := .int .i64 s3.2) rfl rfl) rfl rfl ?_
        clear A46 S46 a46 w46;intro a47 w47 A47 S47
        obtain ⟨x6, e7, hm⟩ := bind_some hm
        refine sv A47 S47 (opT_index_hd (xs := p0a) (i := s3.2) (n := 1) (Hd.of_rd ra0) Try.underlying23 ti34 rfl rfl rfl (getI_in e7)) rfl rfl ?_
        clear A47 S47 a47 w47;intro a48 w48 A48 S48
        refine seq_op0 A48 S48 (opT_load_el (S := rSlice 3 rInt) (xs := p0a) (a := x6) (i := s3.2) (k := 1) (off := 0) (f := fun (x : List Int) => x) ra0 e7 Fld.self ti34 rfl rfl rfl rfl rfl) rfl rfl ?_
        rintro v6 a49 w49 hf A49 S49
        have r5 := lds_sl hf
        clear hf
        clear A48 S48 a48 w48
        obtain ⟨r6, e8, hm⟩ := bind_some hm
        refine seq_op A49 S49 rfl (opT_call (args := #[v6]) (first := #[]) (captured := #[]) en66 rfl rfl rfl (c_w_toIntS x6 _ e8 v6 r5)) (List.Perm.refl _) rfl ?_
        rintro v7 a50 w50 - A50 (S50 : St I w0 w50 [Ch.own (rSlice 3 rInt) [v7] r6, Ch.own (rSlice 34 (rSlice 3 rInt)) [v1] s3.1, F])
        clear A49 S49 a49 w49
        obtain ⟨x7, e9, hm⟩ := bind_some hm
        refine sv A50 S50 (opT_index_hd (xs := s3.1) (i := s3.2) (n := 1) (St.hd S50 1 rfl).1 Try.underlying23 ti34 rfl rfl rfl (getI_in e9)) rfl rfl ?_
        clear A50 S50 a50 w50;intro a51 w51 A51 S51
        refine seq_op A51 S51 rfl (opT_store_own (E := 34) (R := rSlice 3 rInt) (S := rSlice 3 rInt) (xs := s3.1) (a := x7) (b := r6) (i := s3.2) (k := 1) (off := 0) (f := fun x y => y) (v := v1) (d := [v7]) (u := v7) bun_own e9 UpdO.self ti34 rfl rfl rfl (Hd.cells (St.hd S51 0 rfl).1) (allC (Hd.one (St.hd S51 0 rfl).1) allN) rfl rfl rfl (by decide)) (perm_sel [1, 0, 2] (m := 3) rfl rfl) rfl ?_
        rintro _ a52 w52 - A52 (S52 : St I w0 w52 [Ch.own (rSlice 34 (rSlice 3 rInt)) [v1] (s3.1.set s3.2.toNat r6), F])
        clear A51 S51 a51 w51
        refine wpList_nil ?_
        replace A52 := A52.pick' (L' := [(0, va0), (3, v1), (4, .int .i64 s3.2)]) ⟨rfl, rfl, rfl, trivial⟩
        refine nrmB ?_
        refine nrm ?_
        refine wp_region_lit ?_
        refine sv A52 S52 (opT_move (v := .int .i64 s3.2) rfl rfl) rfl rfl ?_
        clear A52 S52 a52 w52;intro a53 w53 A53 S53
        refine sv A53 S53 (opT_add (m := s3.2) (n := 1) rfl rfl rfl) rfl rfl ?_
        clear A53 S53 a53 w53;intro a54 w54 A54 S54
        refine sv A54 S54 (opT_assign (v := .int .i64 (IntKind.i64.wrap (s3.2 + 1))) rfl rfl) rfl rfl ?_
        clear A54 S54 a54 w54;intro a55 w55 A55 S55
        refine wpList_nil ?_
        replace A55 := A55.pick' (L' := [(0, va0), (3, v1), (4, .int .i64 (IntKind.i64.wrap (s3.2 + 1)))]) ⟨rfl, rfl, rfl, trivial⟩
        refine nrm ?_
        exact ⟨_, (Option.some.inj hm).symm, ⟨A55.pick' ⟨rfl, rfl, rfl, trivial⟩, St.sel S55 2 [0, 1] rfl rfl⟩⟩
  · rintro a56 w56 ⟨s4, ho1, A56, S56⟩
    replace hm := loopOut ho1 hc1
    clear ho1 hc1 hl1
    refine nrm ?_
    refine wp_seq ?_
    refine wp_region_lit ?_
    refine sv A56 S56 (opT_move (v := v1) rfl rfl) rfl rfl ?_
    clear A56 S56 a56 w56;intro a57 w57 A57 S57
    refine sv A57 S57 (opT_assign (v := v1) rfl rfl) rfl rfl ?_
    clear A57 S57 a57 w57;intro a58 w58 A58 S58
    refine wpList_nil ?_
    replace A58 := A58.pick' (L' := [(2, v1)]) ⟨rfl, trivial⟩
    refine nrm ?_
    refine wp_ret ?_
    obtain rfl := Option.some.inj hm
    exact ret_1 A58 rfl (res_tmp A58 rfl) ⟨_, rfl, trivial, _, Hp.le.rfl, St.sel (S58) 2 [0, 1] rfl rfl⟩
set_option maxHeartbeats 8000000 in
theorem c_i_Automaton_minimize_1 (p0class : Int) (q0 : List Int) (r : Int) (hm : m_i_Automaton_minimize_1 p0class q0 = some r) {I : Hp} {w0 : World} (g0_0 : Nat) (va1 : Value) (rb0 : I g0_0 = some (.cells #[va1] 34 (0, 0))) (ra1 : (rSlice 3 rInt).rd I [va1] q0) : Con Try.prog 111 #[.int .i64 p0class, .pointer (some ⟨g0_0, 0, none⟩)] I w0 [] (fun v => v = .int .i64 r) (fun v => []) := by
  refine con_of_wp (n := 7) [(0, .int .i64 p0class), (1, .pointer (some ⟨g0_0, 0, none⟩))] Try.func111 rfl rfl (Nat.le_of_ble_eq_true rfl) (args_all ⟨rfl, rfl, trivial⟩) (fun F w a ha hs => ?_) (fun v => trivial)
  unfold m_i_Automaton_minimize_1 at hm
  refine wp_seq ?_
  refine wp_region_lit ?_
  refine sv ha hs (opT_assign (v := .int .i64 0) rfl rfl) rfl rfl ?_
  clear ha hs a w;intro a1 w1 A1 S1
  refine wpList_nil ?_
  replace A1 := A1.pick' (L' := [(0, .int .i64 p0class), (1, .pointer (some ⟨g0_0, 0, none⟩))]) ⟨rfl, rfl, trivial⟩
  refine nrm ?_
  refine wp_seq ?_
  refine wp_region_lit ?_
  refine sv A1 S1 (opT_load_fro (g := g0_0) (off := 0) (l := [va1]) (d := [va1]) (u := va1) rb0 ti34 rfl rfl rfl rfl rfl rfl) rfl rfl ?_
  clear A1 S1 a1 w1;intro a2 w2 A2 S2
  refine sv A2 S2 (opT_move (v := .int .i64 p0class) rfl rfl) rfl rfl ?_
  clear A2 S2 a2 w2;intro a3 w3 A3 S3
  obtain ⟨r1, e1, hm⟩ := bind_some hm
  refine seq_op0 A3 S3 (opT_call (args := #[va1, .int .i64 p0class]) (first := #[]) (captured := #[]) en112 rfl rfl rfl (c_g_slices_Index_S_int_int q0 p0class _ e1 va1 ra1)) rfl rfl ?_
  rintro u a4 w4 hf A4 S4
  obtain rfl := Eq.symm hf
  clear A3 S3 a3 w3
  refine sv A4 S4 (opT_assign (v := .int .i64 r1) rfl rfl) rfl rfl ?_
  clear A4 S4 a4 w4;intro a5 w5 A5 S5
  refine wpList_nil ?_
  replace A5 := A5.pick' (L' := [(3, .int .i64 r1)]) ⟨rfl, trivial⟩
  refine nrm ?_
  refine wp_ret ?_
  obtain rfl := Option.some.inj hm
  exact ret_1 A5 rfl (res_tmp A5 rfl) ⟨_, rfl, rfl, _, Hp.le.rfl, St.sel (S5) 1 [0] rfl rfl⟩
set_option maxHeartbeats 8000000 in
theorem c_i_isLetter (p0n : Int) (r : Bool) (hm : m_i_isLetter p0n = some r) {I : Hp} {w0 : World} : Con Try.prog 149 #[.int .i64 p0n] I w0 [] (fun v => v = .bool r) (fun v => []) := by
  refine con_of_wp (n := 5) [(0, .int .i64 p0n)] Try.func149 rfl rfl (Nat.le_of_ble_eq_true rfl) (args_all ⟨rfl, trivial⟩) (fun F w a ha hs => ?_) (fun v => trivial)
  unfold m_i_isLetter at hm
  refine wp_seq ?_
  refine wp_region_lit ?_
  refine sv ha hs (opT_assign (v := .bool false) rfl rfl) rfl rfl ?_
  clear ha hs a w;intro a1 w1 A1 S1
  refine wpList_nil ?_
  replace A1 := A1.pick' (L' := [(0, .int .i64 p0n)]) ⟨rfl, trivial⟩
  refine nrm ?_
  refine wp_seq ?_
  refine wp_region_lit ?_
  refine sv A1 S1 (opT_move (v := .int .i64 p0n) rfl rfl) rfl rfl ?_
  clear A1 S1 a1 w1;intro a2 w2 A2 S2
  obtain ⟨r1, e1, hm⟩ := bind_some hm
  refine seq_op0 A2 S2 (opT_call (args := #[.int .i64 p0n, .int .i64 0, .int .i64 8]) (first := #[]) (captured := #[]) en95 rfl rfl rfl (c_i_within p0n 0 8 _ e1  )) rfl rfl ?_
  rintro u a3 w3 hf A3 S3
  obtain rfl := Eq.symm hf
  clear A2 S2 a2 w2
  refine sv A3 S3 (opT_assign (v := .bool r1) rfl rfl) rfl rfl ?_
  clear A3 S3 a3 w3;intro a4 w4 A4 S4
  refine wpList_nil ?_
  replace A4 := A4.pick' (L' := [(2, .bool r1)]) ⟨rfl, trivial⟩
  refine nrm ?_
  refine wp_ret ?_
  obtain rfl := Option.some.inj hm
  exact ret_1 A4 rfl (res_tmp A4 rfl) ⟨_, rfl, rfl, _, Hp.le.rfl, St.sel (S4) 1 [0] rfl rfl⟩
end Go.Proofs.Ytcihbmdppgpmjaa.D
