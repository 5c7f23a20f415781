/- Printed by dec.py: models of functions and the walks that show them. -/
import Derived.Test.YtcihbmdppgpmjaaUw0_0
import Derived.Test.YtcihbmdppgpmjaaUw0_2
import Derived.Test.YtcihbmdppgpmjaaUw0_3
set_option linter.unusedVariables false
set_option linter.unusedSimpArgs false
set_option linter.unnecessarySimpa false
set_option maxRecDepth 100000
namespace Go.Proofs.Ytcihbmdppgpmjaa.D
open Go.RowKit
set_option maxHeartbeats 8000000 in
theorem c_s_l11Number (p0 : Int × (List Bool) × (List (List Int))) (p1 : List Int) (p2 : List Bool) (r : Int × (List Bool) × (List (List Int))) (hm : m_s_l11Number p0 p1 p2 = some r) {I : Hp} {w0 : World} (va0 : Value) (va1 : Value) (va2 : Value) (va3 : Value) (ra0 : (rSlice 4 rBool).rd I [va0] p0.2.1) (ra1 : (rSlice 34 (rSlice 3 rInt)).rd I [va1] p0.2.2) (ra2 : (rSlice 3 rInt).rd I [va2] p1) (ra3 : (rSlice 4 rBool).rd I [va3] p2) : Con Try.prog 47 #[.agg #[.int .i64 p0.1, va0, va1], va2, va3] I w0 [] (fun v => ∃ h0 h1 : Value, v = .agg #[.int .i64 r.1, h0, h1]) (fun v => [Ch.own (rSlice 4 rBool) [vg v [1]] r.2.1, Ch.own (rSlice 34 (rSlice 3 rInt)) [vg v [2]] r.2.2]) := by
  refine con_of_wp (n := 107) [(0, .agg #[.int .i64 p0.1, va0, va1]), (1, va2), (2, va3)] Try.func47 rfl rfl (Nat.le_of_ble_eq_true rfl) (args_all ⟨rfl, rfl, rfl, trivial⟩) (fun F w a ha hs => ?_) (fun v => ⟨dp_own (dp_slice dp_bool), dp_own (dp_slice (dp_slice dp_int)), trivial⟩)
  unfold m_s_l11Number at hm
  refine wp_seq ?_
  refine wp_region_lit ?_
  refine seq_op ha hs rfl (opT_box (u := .agg #[.int .i64 p0.1, va0, va1]) (l := [.int .i64 p0.1, va0, va1]) rfl rfl rfl) (List.Perm.refl _) rfl ?_
  rintro _ a1 w1 ⟨g1, rfl⟩ A1 (S1 : St I w0 w1 [Ch.blk g1 [.int .i64 p0.1, va0, va1] 27, F])
  clear ha hs a w
  refine seq_op A1 S1 rfl (opT_alloc (l := [.int .i64 0, .slice none 0 0, .slice none 0 0]) tz27 rfl rfl) (List.Perm.refl _) rfl ?_
  rintro _ a2 w2 ⟨g2, rfl⟩ A2 (S2 : St I w0 w2 [Ch.blk g2 [.int .i64 0, .slice none 0 0, .slice none 0 0] 27, Ch.blk g1 [.int .i64 p0.1, va0, va1] 27, F])
  clear A1 S1 a1 w1
  refine wpList_nil ?_
  replace A2 := A2.pick' (L' := [(1, va2), (2, va3), (3, .pointer (some ⟨g1, 0, none⟩)), (6, .pointer (some ⟨g2, 0, none⟩))]) ⟨rfl, rfl, rfl, rfl, trivial⟩
  refine nrm ?_
  refine wp_seq ?_
  refine wp_seq ?_
  refine wp_region_lit ?_
  refine sv A2 S2 (opT_move (v := va3) rfl rfl) rfl rfl ?_
  clear A2 S2 a2 w2;intro a3 w3 A3 S3
  refine sv A3 S3 (opT_field_addr (g := g1) (b := 0) tf27_0 rfl rfl) rfl rfl ?_
  clear A3 S3 a3 w3;intro a4 w4 A4 S4
  refine seq_op A4 S4 rfl (opT_load_blk (g := g1) (off := 0) (E := 27) (l := [.int .i64 p0.1, va0, va1]) (d := [.int .i64 p0.1]) (u := .int .i64 p0.1) ti3 rfl rfl rfl rfl rfl rfl) (perm_front (i := 1) rfl) rfl ?_
  rintro u a5 w5 hf A5 (S5 : St I w0 w5 [Ch.blk g1 [.int .i64 p0.1, va0, va1] 27, Ch.blk g2 [.int .i64 0, .slice none 0 0, .slice none 0 0] 27, F])
  obtain rfl := Eq.symm hf
  clear A4 S4 a4 w4
  obtain ⟨x1, e1, hm⟩ := bind_some hm
  refine sv A5 S5 (opT_index_hd (xs := p2) (i := p0.1) (n := 1) (Hd.of_rd ra3) Try.underlying22 ti4 rfl rfl rfl (getI_in e1)) rfl rfl ?_
  clear A5 S5 a5 w5;intro a6 w6 A6 S6
  refine seq_op0 A6 S6 (opT_load_el (S := rBool) (xs := p2) (a := x1) (i := p0.1) (k := 1) (off := 0) (f := fun (x : Bool) => x) ra3 e1 Fld.self ti4 rfl rfl rfl rfl rfl) rfl rfl ?_
  rintro u a7 w7 hf A7 S7
  obtain rfl := lds_one hf
  clear A6 S6 a6 w6
  refine sv A7 S7 (opT_not (b := x1) rfl rfl) rfl rfl ?_
  clear A7 S7 a7 w7;intro a8 w8 A8 S8
  refine wpList_nil ?_
  replace A8 := A8.pick' (L' := [(1, va2), (2, va3), (3, .pointer (some ⟨g1, 0, none⟩)), (6, .pointer (some ⟨g2, 0, none⟩)), (20, .bool (!x1))]) ⟨rfl, rfl, rfl, rfl, rfl, trivial⟩
  refine nrm ?_
  rcases two (x1) with hb1 | hb1
  · replace hm := ifFe hb1 hm
    refine cnd_true (b := !x1) A8 rfl rfl (notT hb1) ?_
    refine wp_seq ?_
    refine wp_region_lit ?_
    obtain ⟨r1, e2, hm⟩ := bind_some hm
    refine seq_op A8 S8 rfl (opT_call (args := #[]) (first := #[]) (captured := #[]) en93 rfl rfl rfl (c_s_l11Nothing  _ e2  )) (List.Perm.refl _) rfl ?_
    rintro u a9 w9 ⟨v1, v2, rfl⟩ A9 (S9 : St I w0 w9 [Ch.own (rSlice 4 rBool) [v1] r1.2.1, Ch.own (rSlice 34 (rSlice 3 rInt)) [v2] r1.2.2, Ch.blk g1 [.int .i64 p0.1, va0, va1] 27, Ch.blk g2 [.int .i64 0, .slice none 0 0, .slice none 0 0] 27, F])
    clear A8 S8 a8 w8
    refine seq_op A9 S9 rfl (opT_store_blk (g := g2) (off := 0) (l := [.int .i64 0, .slice none 0 0, .slice none 0 0]) (d := [.int .i64 r1.1, v1, v2]) (E := 27) (u := .agg #[.int .i64 r1.1, v1, v2]) ti27 rfl rfl rfl rfl rfl (allC rfl (allC (Hd.one (St.hd S9 0 rfl).1) (allC (Hd.one (St.hd S9 1 rfl).1) allN))) (Nat.le_of_ble_eq_true rfl)) (perm_front (i := 3) rfl) rfl ?_
    rintro _ a10 w10 - A10 (S10 : St I w0 w10 [Ch.blk g2 [.int .i64 r1.1, v1, v2] 27, Ch.own (rSlice 4 rBool) [v1] r1.2.1, Ch.own (rSlice 34 (rSlice 3 rInt)) [v2] r1.2.2, Ch.blk g1 [.int .i64 p0.1, va0, va1] 27, F])
    clear A9 S9 a9 w9
    refine wpList_nil ?_
    replace A10 := A10.pick' (L' := [(6, .pointer (some ⟨g2, 0, none⟩))]) ⟨rfl, trivial⟩
    refine nrm ?_
    refine wp_ret ?_
    refine thenR ?_
    obtain rfl := Option.some.inj hm
    exact ret_1 A10 rfl (res_cell (g := g2) A10 rfl S10 0 rfl ti27 rfl) ⟨_, rfl, ⟨_, _, rfl⟩, _, Hp.le.rfl, St.sel (S10) 5 [1, 2, 4] rfl rfl⟩
  · replace hm := ifTe hb1 hm
    refine cnd_false (b := !x1) A8 rfl rfl (notF hb1) ?_
    refine wp_skip ?_
    refine nrm ?_
    refine wp_seq ?_
    refine wp_region_lit ?_
    refine sv A8 S8 (opT_build (zl := [.int .i64 0, .slice none 0 0, .slice none 0 0]) (r := [.int .i64 0, .slice none 0 0, .slice none 0 0]) [] tb27 tz27 rfl rfl trivial rfl) rfl rfl ?_
    clear A8 S8 a8 w8;intro a11 w11 A11 S11
    refine seq_op A11 S11 rfl (opT_alloc (l := [.int .i64 0, .slice none 0 0, .slice none 0 0]) tz27 rfl rfl) (List.Perm.refl _) rfl ?_
    rintro _ a12 w12 ⟨g3, rfl⟩ A12 (S12 : St I w0 w12 [Ch.blk g3 [.int .i64 0, .slice none 0 0, .slice none 0 0] 27, Ch.blk g1 [.int .i64 p0.1, va0, va1] 27, Ch.blk g2 [.int .i64 0, .slice none 0 0, .slice none 0 0] 27, F])
    clear A11 S11 a11 w11
    refine seq_op A12 S12 rfl (opT_store_blk (g := g3) (off := 0) (l := [.int .i64 0, .slice none 0 0, .slice none 0 0]) (d := [.int .i64 0, .slice none 0 0, .slice none 0 0]) (E := 27) (u := .agg #[.int .i64 0, .slice none 0 0, .slice none 0 0]) ti27 rfl rfl rfl rfl rfl (allC rfl (allC rfl (allC rfl allN))) (Nat.le_of_ble_eq_true rfl)) (perm_front (i := 0) rfl) rfl ?_
    rintro _ a13 w13 - A13 (S13 : St I w0 w13 [Ch.blk g3 [.int .i64 0, .slice none 0 0, .slice none 0 0] 27, Ch.blk g1 [.int .i64 p0.1, va0, va1] 27, Ch.blk g2 [.int .i64 0, .slice none 0 0, .slice none 0 0] 27, F])
    clear A12 S12 a12 w12
    refine wpList_nil ?_
    replace A13 := A13.pick' (L' := [(1, va2), (2, va3), (3, .pointer (some ⟨g1, 0, none⟩)), (6, .pointer (some ⟨g2, 0, none⟩)), (7, .pointer (some ⟨g3, 0, none⟩))]) ⟨rfl, rfl, rfl, rfl, rfl, trivial⟩
    refine nrm ?_
    refine wp_seq ?_
    refine wp_region_lit ?_
    refine sv A13 S13 (opT_move (v := va2) rfl rfl) rfl rfl ?_
    clear A13 S13 a13 w13;intro a14 w14 A14 S14
    refine sv A14 S14 (opT_field_addr (g := g1) (b := 0) tf27_0 rfl rfl) rfl rfl ?_
    clear A14 S14 a14 w14;intro a15 w15 A15 S15
    refine seq_op A15 S15 rfl (opT_load_blk (g := g1) (off := 0) (E := 27) (l := [.int .i64 p0.1, va0, va1]) (d := [.int .i64 p0.1]) (u := .int .i64 p0.1) ti3 rfl rfl rfl rfl rfl rfl) (perm_front (i := 1) rfl) rfl ?_
    rintro u a16 w16 hf A16 (S16 : St I w0 w16 [Ch.blk g1 [.int .i64 p0.1, va0, va1] 27, Ch.blk g3 [.int .i64 0, .slice none 0 0, .slice none 0 0] 27, Ch.blk g2 [.int .i64 0, .slice none 0 0, .slice none 0 0] 27, F])
    obtain rfl := Eq.symm hf
    clear A15 S15 a15 w15
    obtain ⟨x2, e3, hm⟩ := bind_some hm
    refine sv A16 S16 (opT_index_hd (xs := p1) (i := p0.1) (n := 1) (Hd.of_rd ra2) Try.underlying34 ti3 rfl rfl rfl (getI_in e3)) rfl rfl ?_
    clear A16 S16 a16 w16;intro a17 w17 A17 S17
    refine seq_op0 A17 S17 (opT_load_el (S := rInt) (xs := p1) (a := x2) (i := p0.1) (k := 1) (off := 0) (f := fun (x : Int) => x) ra2 e3 Fld.self ti3 rfl rfl rfl rfl rfl) rfl rfl ?_
    rintro u a18 w18 hf A18 S18
    obtain rfl := lds_one hf
    clear A17 S17 a17 w17
    refine seq_op A18 S18 rfl (opT_lit_cpy (E := 3) (R := rInt) (S := rInt) [(.int .i64 x2, [.int .i64 x2])] [x2] cpy_int (rd_all ⟨rfl, trivial⟩) Try.underlying34 tz3 (by decide) rfl (by decide) (by decide) rfl rfl rfl rfl (us_all ⟨⟨rfl, rfl⟩, trivial⟩)) (List.Perm.refl _) rfl ?_
    rintro v3 a19 w19 - A19 (S19 : St I w0 w19 [Ch.own (rSlice 3 rInt) [v3] ([x2]), Ch.blk g1 [.int .i64 p0.1, va0, va1] 27, Ch.blk g3 [.int .i64 0, .slice none 0 0, .slice none 0 0] 27, Ch.blk g2 [.int .i64 0, .slice none 0 0, .slice none 0 0] 27, F])
    clear A18 S18 a18 w18
    refine sv A19 S19 (opT_assign (v := v3) rfl rfl) rfl rfl ?_
    clear A19 S19 a19 w19;intro a20 w20 A20 S20
    refine wpList_nil ?_
    replace A20 := A20.pick' (L' := [(1, va2), (2, va3), (3, .pointer (some ⟨g1, 0, none⟩)), (6, .pointer (some ⟨g2, 0, none⟩)), (7, .pointer (some ⟨g3, 0, none⟩)), (8, v3)]) ⟨rfl, rfl, rfl, rfl, rfl, rfl, trivial⟩
    refine nrm ?_
    refine wp_seq ?_
    refine wp_region_lit ?_
    refine sv A20 S20 (opT_field_addr (g := g1) (b := 0) tf27_0 rfl rfl) rfl rfl ?_
    clear A20 S20 a20 w20;intro a21 w21 A21 S21
    refine seq_op A21 S21 rfl (opT_load_blk (g := g1) (off := 0) (E := 27) (l := [.int .i64 p0.1, va0, va1]) (d := [.int .i64 p0.1]) (u := .int .i64 p0.1) ti3 rfl rfl rfl rfl rfl rfl) (perm_front (i := 1) rfl) rfl ?_
    rintro u a22 w22 hf A22 (S22 : St I w0 w22 [Ch.blk g1 [.int .i64 p0.1, va0, va1] 27, Ch.own (rSlice 3 rInt) [v3] ([x2]), Ch.blk g3 [.int .i64 0, .slice none 0 0, .slice none 0 0] 27, Ch.blk g2 [.int .i64 0, .slice none 0 0, .slice none 0 0] 27, F])
    obtain rfl := Eq.symm hf
    clear A21 S21 a21 w21
    refine seq_op A22 S22 rfl (opT_lit_cpy (E := 3) (R := rInt) (S := rInt) [(.int .i64 p0.1, [.int .i64 p0.1])] [p0.1] cpy_int (rd_all ⟨rfl, trivial⟩) Try.underlying34 tz3 (by decide) rfl (by decide) (by decide) rfl rfl rfl rfl (us_all ⟨⟨rfl, rfl⟩, trivial⟩)) (List.Perm.refl _) rfl ?_
    rintro v4 a23 w23 - A23 (S23 : St I w0 w23 [Ch.own (rSlice 3 rInt) [v4] ([p0.1]), Ch.blk g1 [.int .i64 p0.1, va0, va1] 27, Ch.own (rSlice 3 rInt) [v3] ([x2]), Ch.blk g3 [.int .i64 0, .slice none 0 0, .slice none 0 0] 27, Ch.blk g2 [.int .i64 0, .slice none 0 0, .slice none 0 0] 27, F])
    clear A22 S22 a22 w22
    refine sv A23 S23 (opT_assign (v := v4) rfl rfl) rfl rfl ?_
    clear A23 S23 a23 w23;intro a24 w24 A24 S24
    refine wpList_nil ?_
    replace A24 := A24.pick' (L' := [(1, va2), (2, va3), (3, .pointer (some ⟨g1, 0, none⟩)), (6, .pointer (some ⟨g2, 0, none⟩)), (7, .pointer (some ⟨g3, 0, none⟩)), (8, v3), (9, v4)]) ⟨rfl, rfl, rfl, rfl, rfl, rfl, rfl, trivial⟩
    refine nrm ?_
    refine wp_seq ?_
    refine wp_seq ?_
    refine wp_region_lit ?_
    refine sv A24 S24 (opT_assign (v := .int .i64 0) rfl rfl) rfl rfl ?_
    clear A24 S24 a24 w24;intro a25 w25 A25 S25
    refine wpList_nil ?_
    replace A25 := A25.pick' (L' := [(1, va2), (2, va3), (3, .pointer (some ⟨g1, 0, none⟩)), (6, .pointer (some ⟨g2, 0, none⟩)), (7, .pointer (some ⟨g3, 0, none⟩)), (8, v3), (9, v4), (10, .int .i64 0)]) ⟨rfl, rfl, rfl, rfl, rfl, rfl, rfl, rfl, trivial⟩
    refine nrm ?_
    obtain ⟨o11, hl3, hc9⟩ := bindL_some hm
    refine wp_cut (fun a w => ∃ s18 : (List Int) × (List Int) × Int × (List Bool) × (List (List Int)), o11 = .brk s18 ∧ ∃ v115 v116 : Value, Agr 107 a [(6, .pointer (some ⟨g2, 0, none⟩)), (7, .pointer (some ⟨g3, 0, none⟩))] ∧ St I w0 w [Ch.own (rSlice 4 rBool) [v115] s18.2.2.2.1, Ch.own (rSlice 34 (rSlice 3 rInt)) [v116] s18.2.2.2.2, Ch.blk g2 [.int .i64 0, .slice none 0 0, .slice none 0 0] 27, Ch.blk g3 [.int .i64 0, v115, v116] 27, F]) ?_ ?_
    · refine wp_block (wp_loopM (R := Int × (List Bool) × (List (List Int))) (S := (List Int) × (List Int) × Int × (List Bool) × (List (List Int))) (fun s17 a w => ∃ v117 v118 v119 v120 : Value, Agr 107 a [(1, va2), (2, va3), (3, .pointer (some ⟨g1, 0, none⟩)), (6, .pointer (some ⟨g2, 0, none⟩)), (7, .pointer (some ⟨g3, 0, none⟩)), (8, v117), (9, v118), (10, .int .i64 s17.2.2.1)] ∧ St I w0 w [Ch.own (rSlice 3 rInt) [v117] s17.1, Ch.own (rSlice 3 rInt) [v118] s17.2.1, Ch.own (rSlice 4 rBool) [v119] s17.2.2.2.1, Ch.own (rSlice 34 (rSlice 3 rInt)) [v120] s17.2.2.2.2, Ch.blk g1 [.int .i64 p0.1, va0, va1] 27, Ch.blk g2 [.int .i64 0, .slice none 0 0, .slice none 0 0] 27, Ch.blk g3 [.int .i64 0, v119, v120] 27, F]) hl3 ?_ ?_)
      · exact ⟨v3, v4, (.slice none 0 0), (.slice none 0 0), A25.pick' ⟨rfl, rfl, rfl, rfl, rfl, rfl, rfl, rfl, trivial⟩, St.sel (St.nil (St.nil S25)) 8 [4, 2, 1, 0, 3, 6, 5, 7] rfl rfl⟩
      · rintro s17 o12 hm hf3 a592 w592 ⟨v117, v118, v119, v120, A592, S592⟩
        unfold m_s_l11Number_l0 at hm
        refine wp_seq ?_
        refine wp_seq ?_
        refine wp_region_lit ?_
        refine sv A592 S592 (opT_move (v := .int .i64 s17.2.2.1) rfl rfl) rfl rfl ?_
        clear A592 S592 a592 w592;intro a593 w593 A593 S593
        refine sv A593 S593 (opT_move (v := v117) rfl rfl) rfl rfl ?_
        clear A593 S593 a593 w593;intro a594 w594 A594 S594
        refine sv A594 S594 (opT_len_hd (v := v117) (n := s17.1.length) (St.hd S594 0 rfl).1 Try.underlying34 rfl rfl) rfl rfl ?_
        clear A594 S594 a594 w594;intro a595 w595 A595 S595
        refine sv A595 S595 (opT_cmp (k := .i64) (m := s17.2.2.1) (n := (s17.1.length : Int)) (c := decide (s17.2.2.1 < (s17.1.length : Int))) rfl rfl rfl rfl rfl) rfl rfl ?_
        clear A595 S595 a595 w595;intro a596 w596 A596 S596
        refine wpList_nil ?_
        replace A596 := A596.pick' (L' := [(1, va2), (2, va3), (3, .pointer (some ⟨g1, 0, none⟩)), (6, .pointer (some ⟨g2, 0, none⟩)), (7, .pointer (some ⟨g3, 0, none⟩)), (8, v117), (9, v118), (10, .int .i64 s17.2.2.1), (35, .bool (decide (s17.2.2.1 < (s17.1.length : Int))))]) ⟨rfl, rfl, rfl, rfl, rfl, rfl, rfl, rfl, rfl, trivial⟩
        refine nrm ?_
        rcases two (decide (s17.2.2.1 < (s17.1.length : Int))) with hb46 | hb46
        · replace hm := ifFe hb46 hm
          refine cnd_false (b := decide (s17.2.2.1 < (s17.1.length : Int))) A596 rfl rfl hb46 ?_
          refine wp_exit ?_
          refine thenX ?_
          refine thenX ?_
          refine ex_in ?_
          refine nrm ?_
          exact ⟨_, loopBrk hm hf3, ⟨v119, v120, A596.pick' ⟨rfl, rfl, trivial⟩, St.sel S596 8 [2, 3, 5, 6, 7] rfl rfl⟩⟩
        · replace hm := ifTe hb46 hm
          refine cnd_true (b := decide (s17.2.2.1 < (s17.1.length : Int))) A596 rfl rfl hb46 ?_
          refine wp_skip ?_
          refine nrm ?_
          refine wp_seq ?_
          refine wp_block ?_
          refine wp_seq ?_
          refine wp_region_lit ?_
          refine seq_op A596 S596 rfl (opT_lit0 (E := 3) (R := rInt) Try.underlying34 ti3 rfl) (List.Perm.refl _) rfl ?_
          rintro v121 a597 w597 - A597 (S597 : St I w0 w597 [Ch.own (rSlice 3 rInt) [v121] ([] : List Int), Ch.own (rSlice 3 rInt) [v117] s17.1, Ch.own (rSlice 3 rInt) [v118] s17.2.1, Ch.own (rSlice 4 rBool) [v119] s17.2.2.2.1, Ch.own (rSlice 34 (rSlice 3 rInt)) [v120] s17.2.2.2.2, Ch.blk g1 [.int .i64 p0.1, va0, va1] 27, Ch.blk g2 [.int .i64 0, .slice none 0 0, .slice none 0 0] 27, Ch.blk g3 [.int .i64 0, v119, v120] 27, F])
          clear A596 S596 a596 w596
          refine sv A597 S597 (opT_assign (v := v121) rfl rfl) rfl rfl ?_
          clear A597 S597 a597 w597;intro a598 w598 A598 S598
          refine wpList_nil ?_
          replace A598 := A598.pick' (L' := [(1, va2), (2, va3), (3, .pointer (some ⟨g1, 0, none⟩)), (6, .pointer (some ⟨g2, 0, none⟩)), (7, .pointer (some ⟨g3, 0, none⟩)), (8, v117), (9, v118), (10, .int .i64 s17.2.2.1), (11, v121)]) ⟨rfl, rfl, rfl, rfl, rfl, rfl, rfl, rfl, rfl, trivial⟩
          refine nrm ?_
          refine wp_seq ?_
          refine wp_seq ?_
          refine wp_region_lit ?_
          refine sv A598 S598 (opT_assign (v := .int .i64 0) rfl rfl) rfl rfl ?_
          clear A598 S598 a598 w598;intro a599 w599 A599 S599
          refine wpList_nil ?_
          replace A599 := A599.pick' (L' := [(1, va2), (2, va3), (3, .pointer (some ⟨g1, 0, none⟩)), (6, .pointer (some ⟨g2, 0, none⟩)), (7, .pointer (some ⟨g3, 0, none⟩)), (8, v117), (9, v118), (10, .int .i64 s17.2.2.1), (11, v121), (12, .int .i64 0)]) ⟨rfl, rfl, rfl, rfl, rfl, rfl, rfl, rfl, rfl, rfl, trivial⟩
          refine nrm ?_
          obtain ⟨o15, hl4, hc12⟩ := bindL_some hm
          refine wp_cut (fun a w => ∃ s24 : (List Int) × (List Int) × (List Int) × Int, o15 = .brk s24 ∧ ∃ v151 v152 v153 : Value, Agr 107 a [(1, va2), (2, va3), (3, .pointer (some ⟨g1, 0, none⟩)), (6, .pointer (some ⟨g2, 0, none⟩)), (7, .pointer (some ⟨g3, 0, none⟩)), (8, v151), (9, v152), (10, .int .i64 s17.2.2.1), (11, v153)] ∧ St I w0 w [Ch.own (rSlice 3 rInt) [v151] s24.1, Ch.own (rSlice 3 rInt) [v152] s24.2.1, Ch.own (rSlice 3 rInt) [v153] s24.2.2.1, Ch.blk g1 [.int .i64 p0.1, va0, va1] 27, Ch.blk g2 [.int .i64 0, .slice none 0 0, .slice none 0 0] 27, Ch.blk g3 [.int .i64 0, v119, v120] 27, Ch.own (rSlice 4 rBool) [v119] s17.2.2.2.1, Ch.own (rSlice 34 (rSlice 3 rInt)) [v120] s17.2.2.2.2, F]) ?_ ?_
          · refine wp_block (wp_loopM (R := Int × (List Bool) × (List (List Int))) (S := (List Int) × (List Int) × (List Int) × Int) (fun s23 a w => ∃ v154 v155 v156 : Value, Agr 107 a [(1, va2), (2, va3), (3, .pointer (some ⟨g1, 0, none⟩)), (6, .pointer (some ⟨g2, 0, none⟩)), (7, .pointer (some ⟨g3, 0, none⟩)), (8, v154), (9, v155), (10, .int .i64 s17.2.2.1), (11, v156), (12, .int .i64 s23.2.2.2)] ∧ St I w0 w [Ch.own (rSlice 3 rInt) [v154] s23.1, Ch.own (rSlice 3 rInt) [v155] s23.2.1, Ch.own (rSlice 3 rInt) [v156] s23.2.2.1, Ch.blk g1 [.int .i64 p0.1, va0, va1] 27, Ch.blk g2 [.int .i64 0, .slice none 0 0, .slice none 0 0] 27, Ch.blk g3 [.int .i64 0, v119, v120] 27, Ch.own (rSlice 4 rBool) [v119] s17.2.2.2.1, Ch.own (rSlice 34 (rSlice 3 rInt)) [v120] s17.2.2.2.2, F]) hl4 ?_ ?_)
            · exact ⟨v117, v118, v121, A599.pick' ⟨rfl, rfl, rfl, rfl, rfl, rfl, rfl, rfl, rfl, rfl, trivial⟩, St.sel S599 9 [1, 2, 0, 5, 6, 7, 3, 4, 8] rfl rfl⟩
            · rintro s23 o16 hm hf4 a776 w776 ⟨v154, v155, v156, A776, S776⟩
              unfold m_s_l11Number_l1 at hm
              refine wp_seq ?_
              refine wp_seq ?_
              refine wp_region_lit ?_
              refine sv A776 S776 (opT_move (v := .int .i64 s23.2.2.2) rfl rfl) rfl rfl ?_
              clear A776 S776 a776 w776;intro a777 w777 A777 S777
              refine sv A777 S777 (opT_cmp (k := .i64) (m := s23.2.2.2) (n := 9) (c := decide (s23.2.2.2 < 9)) rfl rfl rfl rfl rfl) rfl rfl ?_
              clear A777 S777 a777 w777;intro a778 w778 A778 S778
              refine wpList_nil ?_
              replace A778 := A778.pick' (L' := [(1, va2), (2, va3), (3, .pointer (some ⟨g1, 0, none⟩)), (6, .pointer (some ⟨g2, 0, none⟩)), (7, .pointer (some ⟨g3, 0, none⟩)), (8, v154), (9, v155), (10, .int .i64 s17.2.2.1), (11, v156), (12, .int .i64 s23.2.2.2), (40, .bool (decide (s23.2.2.2 < 9)))]) ⟨rfl, rfl, rfl, rfl, rfl, rfl, rfl, rfl, rfl, rfl, rfl, trivial⟩
              refine nrm ?_
              rcases two (decide (s23.2.2.2 < 9)) with hb61 | hb61
              · replace hm := ifFe hb61 hm
                refine cnd_false (b := decide (s23.2.2.2 < 9)) A778 rfl rfl hb61 ?_
                refine wp_exit ?_
                refine thenX ?_
                refine thenX ?_
                refine ex_in ?_
                refine nrm ?_
                exact ⟨_, loopBrk hm hf4, ⟨v154, v155, v156, A778.pick' ⟨rfl, rfl, rfl, rfl, rfl, rfl, rfl, rfl, rfl, trivial⟩, St.sel S778 9 [0, 1, 2, 3, 4, 5, 6, 7, 8] rfl rfl⟩⟩
              · replace hm := ifTe hb61 hm
                refine cnd_true (b := decide (s23.2.2.2 < 9)) A778 rfl rfl hb61 ?_
                refine wp_skip ?_
                refine nrm ?_
                refine wp_seq ?_
                refine wp_block ?_
                refine wp_seq ?_
                obtain ⟨x79, e140, hm⟩ := bind_some hm
                have hd1 := (St.hd S778 1 rfl).1
                obtain ⟨x80, e141, hm⟩ := bind_some hm
                obtain ⟨x81, e142, hm⟩ := bind_some hm
                refine wp_draw (L := [(1, va2), (2, va3), (3, .pointer (some ⟨g1, 0, none⟩)), (6, .pointer (some ⟨g2, 0, none⟩)), (7, .pointer (some ⟨g3, 0, none⟩)), (8, v154), (9, v155), (10, .int .i64 s17.2.2.1), (11, v156), (12, .int .i64 s23.2.2.2), (40, .bool (decide (s23.2.2.2 < 9)))]) (C := [Ch.own (rSlice 3 rInt) [v154] s23.1, Ch.own (rSlice 3 rInt) [v156] s23.2.2.1, Ch.blk g2 [.int .i64 0, .slice none 0 0, .slice none 0 0] 27, Ch.blk g3 [.int .i64 0, v119, v120] 27, Ch.own (rSlice 4 rBool) [v119] s17.2.2.2.1, Ch.own (rSlice 34 (rSlice 3 rInt)) [v120] s17.2.2.2.2, F]) { ops := [⟨[], [], [], [0], fun | [xo0] => xo0 = .pointer (some ⟨g1, 2, none⟩) | _ => True, [(3, none)]⟩, ⟨[0], [], [], [1], fun | [xo1] => xo1 = va1 | _ => True, [(43, some 0)]⟩, ⟨[], [], [], [2], fun | [xo2] => xo2 = v155 | _ => True, [(9, none)]⟩, ⟨[], [], [], [3], fun | [xo3] => xo3 = .int .i64 s17.2.2.1 | _ => True, [(10, none)]⟩, ⟨[], [], [], [4], fun | [xo4] => xo4 = pt v155 (s17.2.2.1.toNat * 1) | _ => True, [(45, some 2), (46, some 3)]⟩, ⟨[1], [], [], [5], fun | [xo5] => xo5 = .int .i64 x79 | _ => True, [(47, some 4)]⟩, ⟨[], [], [], [6], fun | [xo6] => xo6 = pt va1 (x79.toNat * 1) | _ => True, [(44, some 1), (48, some 5)]⟩, ⟨[], [], [], [7], fun | [xo7] => (rSlice 3 rInt).rd I [xo7] x80 | _ => True, [(49, some 6)]⟩, ⟨[], [], [], [8], fun | [xo8] => xo8 = .int .i64 s23.2.2.2 | _ => True, [(12, none)]⟩, ⟨[], [], [], [9, 7], fun | [xo9, xo7] => xo9 = pt xo7 (s23.2.2.2.toNat * 1) | _ => True, [(50, some 7), (51, some 8)]⟩, ⟨[], [], [], [10], fun | [xo10] => xo10 = .int .i64 x81 | _ => True, [(52, some 9)]⟩, ⟨[], [], [], [11], fun | [xo11] => xo11 = .int .i64 x81 | _ => True, [(53, some 10)]⟩], res := [⟨[], fun _ => Ch.blk g1 [.int .i64 p0.1, va0, va1] 27⟩, ⟨[], fun _ => Ch.own (rSlice 3 rInt) [v155] s23.2.1⟩], base := [0, 1], pre := [[], [0], [], [], [2, 3], [2, 3, 4], [0, 1, 2, 3, 4, 5], [0, 1, 2, 3, 4, 5, 6], [], [0, 1, 2, 3, 4, 5, 6, 7, 8], [0, 1, 2, 3, 4, 5, 6, 7, 8, 9], [0, 1, 2, 3, 4, 5, 6, 7, 8, 9, 10]], fin := [(1, none), (2, none), (3, none), (6, none), (7, none), (8, none), (9, none), (10, none), (11, none), (12, none), (13, some 11)], left := [0, 1] } (by kernel_rfl) A778 S778 (perm_sel [3, 1, 0, 2, 4, 5, 6, 7, 8] (m := 9) rfl rfl) (by kernel_rfl) (by kernel_rfl) ?_ ?_
                · exact ⟨Plan.goal_run fun vs hf => ⟨wants_none rfl, OpT.conv (OpT.evs (ev' := evL [(3, .pointer (some ⟨g1, 0, none⟩))]) (opT_field_addr (g := g1) (b := 0) tf27_2 rfl rfl) rfl [.tmp 3] rfl ⟨rfl, trivial⟩) rfl (fun _ h => Eq.trans h rfl) (fun _ => rfl)⟩, Plan.goal_run fun vs hf => ⟨wants_none rfl, OpT.conv (OpT.evs (ev' := evL [(43, .pointer (some ⟨g1, 2, none⟩))]) (opT_load_blk (g := g1) (off := 2) (E := 27) (l := [.int .i64 p0.1, va0, va1]) (d := [va1]) (u := va1) ti23 rfl rfl rfl rfl rfl rfl) rfl [.tmp 43] rfl ⟨(hf 0 (mb rfl)), trivial⟩) rfl (fun _ h => Eq.trans h rfl) (fun _ => rfl)⟩, Plan.goal_run fun vs hf => ⟨wants_none rfl, OpT.conv (OpT.evs (ev' := evL [(9, v155)]) (opT_move (v := v155) rfl rfl) rfl [.tmp 9] rfl ⟨rfl, trivial⟩) rfl (fun _ h => Eq.trans h rfl) (fun _ => rfl)⟩, Plan.goal_run fun vs hf => ⟨wants_none rfl, OpT.conv (OpT.evs (ev' := evL [(10, .int .i64 s17.2.2.1)]) (opT_move (v := .int .i64 s17.2.2.1) rfl rfl) rfl [.tmp 10] rfl ⟨rfl, trivial⟩) rfl (fun _ h => Eq.trans h rfl) (fun _ => rfl)⟩, Plan.goal_run fun vs hf => ⟨wants_none rfl, OpT.conv (OpT.evs (ev' := evL [(45, v155), (46, .int .i64 s17.2.2.1)]) (opT_index_hd (xs := s23.2.1) (i := s17.2.2.1) (n := 1) hd1 Try.underlying34 ti3 rfl rfl rfl (getI_in e140)) rfl [.tmp 45, .tmp 46] rfl ⟨(hf 2 (mb rfl)), (hf 3 (mb rfl)), trivial⟩) rfl (fun _ h => Eq.trans h rfl) (fun _ => rfl)⟩, Plan.goal_run fun vs hf => ⟨wants_none rfl, OpT.conv (OpT.evs (ev' := evL [(47, pt v155 (s17.2.2.1.toNat * 1))]) (opT_load_own (E := 3) (R := rInt) (S := rInt) (xs := s23.2.1) (a := x79) (i := s17.2.2.1) (k := 1) (off := 0) (f := fun (x : Int) => x) sh_int e140 Fld.self ti3 rfl rfl rfl rfl rfl) rfl [.tmp 47] rfl ⟨(hf 4 (mb rfl)), trivial⟩) rfl (fun _ h => lds_one h) (fun _ => rfl)⟩, Plan.goal_run fun vs hf => ⟨wants_none rfl, OpT.conv (OpT.evs (ev' := evL [(44, va1), (48, .int .i64 x79)]) (opT_index_hd (xs := p0.2.2) (i := x79) (n := 1) (Hd.of_rd ra1) Try.underlying23 ti34 rfl rfl rfl (getI_in e141)) rfl [.tmp 44, .tmp 48] rfl ⟨(hf 1 (mb rfl)), (hf 5 (mb rfl)), trivial⟩) rfl (fun _ h => Eq.trans h rfl) (fun _ => rfl)⟩, Plan.goal_run fun vs hf => ⟨wants_none rfl, OpT.conv (OpT.evs (ev' := evL [(49, pt va1 (x79.toNat * 1))]) (opT_load_el (S := rSlice 3 rInt) (xs := p0.2.2) (a := x80) (i := x79) (k := 1) (off := 0) (f := fun (x : List Int) => x) ra1 e141 Fld.self ti34 rfl rfl rfl rfl rfl) rfl [.tmp 49] rfl ⟨(hf 6 (mb rfl)), trivial⟩) rfl (fun _ h => lds_sl h) (fun _ => rfl)⟩, Plan.goal_run fun vs hf => ⟨wants_none rfl, OpT.conv (OpT.evs (ev' := evL [(12, .int .i64 s23.2.2.2)]) (opT_move (v := .int .i64 s23.2.2.2) rfl rfl) rfl [.tmp 12] rfl ⟨rfl, trivial⟩) rfl (fun _ h => Eq.trans h rfl) (fun _ => rfl)⟩, Plan.goal_run fun vs hf => ⟨wants_none rfl, OpT.conv (OpT.evs (ev' := evL [(50, (vs 7)), (51, .int .i64 s23.2.2.2)]) (opT_index_hd (xs := x80) (i := s23.2.2.2) (n := 1) (Hd.of_rd (show (rSlice 3 rInt).rd I [(vs 7)] x80 from (hf 7 (mb rfl)))) Try.underlying34 ti3 rfl rfl rfl (getI_in e142)) rfl [.tmp 50, .tmp 51] rfl ⟨rfl, (hf 8 (mb rfl)), trivial⟩) rfl (fun _ h => Eq.trans h rfl) (fun _ => rfl)⟩, Plan.goal_run fun vs hf => ⟨wants_none rfl, OpT.conv (OpT.evs (ev' := evL [(52, pt (vs 7) (s23.2.2.2.toNat * 1))]) (opT_load_el (S := rInt) (xs := x80) (a := x81) (i := s23.2.2.2) (k := 1) (off := 0) (f := fun (x : Int) => x) (show (rSlice 3 rInt).rd I [(vs 7)] x80 from (hf 7 (mb rfl))) e142 Fld.self ti3 rfl rfl rfl rfl rfl) rfl [.tmp 52] rfl ⟨(hf 9 (mb rfl)), trivial⟩) rfl (fun _ h => lds_one h) (fun _ => rfl)⟩, Plan.goal_run fun vs hf => ⟨wants_none rfl, OpT.conv (OpT.evs (ev' := evL [(53, .int .i64 x81)]) (opT_assign (v := .int .i64 x81) rfl rfl) rfl [.tmp 53] rfl ⟨(hf 10 (mb rfl)), trivial⟩) rfl (fun _ h => Eq.trans h rfl) (fun _ => rfl)⟩, trivial⟩
                intro vs a779 w779 hf A779 S779
                clear A778 S778
                replace A779 := A779.pick' (L' := [(1, va2), (2, va3), (3, .pointer (some ⟨g1, 0, none⟩)), (6, .pointer (some ⟨g2, 0, none⟩)), (7, .pointer (some ⟨g3, 0, none⟩)), (8, v154), (9, v155), (10, .int .i64 s17.2.2.1), (11, v156), (12, .int .i64 s23.2.2.2), (13, .int .i64 x81)]) ⟨rfl, rfl, rfl, rfl, rfl, rfl, rfl, rfl, rfl, rfl, (congrArg some (show _ = _ from (hf 11 (Nat.le_of_ble_eq_true rfl)))), trivial⟩
                replace S779 : St I w0 w779 [Ch.blk g1 [.int .i64 p0.1, va0, va1] 27, Ch.own (rSlice 3 rInt) [v155] s23.2.1, Ch.own (rSlice 3 rInt) [v154] s23.1, Ch.own (rSlice 3 rInt) [v156] s23.2.2.1, Ch.blk g2 [.int .i64 0, .slice none 0 0, .slice none 0 0] 27, Ch.blk g3 [.int .i64 0, v119, v120] 27, Ch.own (rSlice 4 rBool) [v119] s17.2.2.2.1, Ch.own (rSlice 34 (rSlice 3 rInt)) [v120] s17.2.2.2.2, F] := S779
                clear hf vs
                refine nrm ?_
                refine wp_seq ?_
                refine wp_region_lit ?_
                refine sv A779 S779 (opT_assign (v := .int .i64 (-1)) rfl rfl) rfl rfl ?_
                clear A779 S779 a779 w779;intro a780 w780 A780 S780
                refine wpList_nil ?_
                replace A780 := A780.pick' (L' := [(1, va2), (2, va3), (3, .pointer (some ⟨g1, 0, none⟩)), (6, .pointer (some ⟨g2, 0, none⟩)), (7, .pointer (some ⟨g3, 0, none⟩)), (8, v154), (9, v155), (10, .int .i64 s17.2.2.1), (11, v156), (12, .int .i64 s23.2.2.2), (13, .int .i64 x81), (14, .int .i64 (-1))]) ⟨rfl, rfl, rfl, rfl, rfl, rfl, rfl, rfl, rfl, rfl, rfl, rfl, trivial⟩
                refine nrm ?_
                obtain ⟨s25, hj9, hm⟩ := bind_some hm
                refine wp_seq_cut (fun a w => ∃ v162 v163 : Value, Agr 107 a [(1, va2), (2, va3), (3, .pointer (some ⟨g1, 0, none⟩)), (6, .pointer (some ⟨g2, 0, none⟩)), (7, .pointer (some ⟨g3, 0, none⟩)), (8, v162), (9, v163), (10, .int .i64 s17.2.2.1), (11, v156), (12, .int .i64 s23.2.2.2), (14, .int .i64 s25.2.2)] ∧ St I w0 w [Ch.own (rSlice 3 rInt) [v162] s25.1, Ch.own (rSlice 3 rInt) [v163] s25.2.1, Ch.blk g1 [.int .i64 p0.1, va0, va1] 27, Ch.blk g2 [.int .i64 0, .slice none 0 0, .slice none 0 0] 27, Ch.blk g3 [.int .i64 0, v119, v120] 27, Ch.own (rSlice 4 rBool) [v119] s17.2.2.2.1, Ch.own (rSlice 34 (rSlice 3 rInt)) [v120] s17.2.2.2.2, Ch.own (rSlice 3 rInt) [v156] s23.2.2.1, F]) ?_ ?_
                · replace hm := hj9
                  refine wp_seq ?_
                  refine wp_region_lit ?_
                  refine sv A780 S780 (opT_move (v := .int .i64 x81) rfl rfl) rfl rfl ?_
                  clear A780 S780 a780 w780;intro a819 w819 A819 S819
                  refine sv A819 S819 (opT_cmp (k := .i64) (m := x81) (n := 0) (c := decide (x81 ≥ 0)) rfl rfl rfl rfl rfl) rfl rfl ?_
                  clear A819 S819 a819 w819;intro a820 w820 A820 S820
                  refine sv A820 S820 (opT_move (v := .bool (decide (x81 ≥ 0))) rfl rfl) rfl rfl ?_
                  clear A820 S820 a820 w820;intro a821 w821 A821 S821
                  rcases two (decide (x81 ≥ 0)) with hb65 | hb65
                  · replace hm := ifFe hb65 hm
                    refine seq_skip (g := 2) (d := 56) (want := true) (b := decide (x81 ≥ 0)) A821 S821 rfl rfl rfl hb65 rfl ?_
                    intro a822 A822
                    refine seq_skip (g := 2) (d := 56) (want := true) (b := decide (x81 ≥ 0)) A822 S821 rfl rfl rfl hb65 rfl ?_
                    intro a823 A823
                    refine seq_skip (g := 2) (d := 56) (want := true) (b := decide (x81 ≥ 0)) A823 S821 rfl rfl rfl hb65 rfl ?_
                    intro a824 A824
                    refine seq_skip (g := 2) (d := 56) (want := true) (b := decide (x81 ≥ 0)) A824 S821 rfl rfl rfl hb65 rfl ?_
                    intro a825 A825
                    refine sv A825 S821 (opT_pick (b := decide (x81 ≥ 0)) (v := .bool false) rfl rfl (ifF hb65)) rfl rfl ?_
                    clear A825 S821 a825 w821;intro a826 w826 A826 S826
                    refine wpList_nil ?_
                    replace A826 := A826.pick' (L' := [(1, va2), (2, va3), (3, .pointer (some ⟨g1, 0, none⟩)), (6, .pointer (some ⟨g2, 0, none⟩)), (7, .pointer (some ⟨g3, 0, none⟩)), (8, v154), (9, v155), (10, .int .i64 s17.2.2.1), (11, v156), (12, .int .i64 s23.2.2.2), (13, .int .i64 x81), (14, .int .i64 (-1)), (61, .bool false)]) ⟨rfl, rfl, rfl, rfl, rfl, rfl, rfl, rfl, rfl, rfl, rfl, rfl, rfl, trivial⟩
                    refine nrm ?_
                    refine cnd_false (b := false) A826 rfl rfl rfl ?_
                    refine wp_skip ?_
                    refine nrm ?_
                    obtain rfl := Option.some.inj hm
                    exact ⟨v154, v155, A826.pick' ⟨rfl, rfl, rfl, rfl, rfl, rfl, rfl, rfl, rfl, rfl, rfl, trivial⟩, St.sel S826 9 [2, 1, 0, 4, 5, 6, 7, 3, 8] rfl rfl⟩
                  · replace hm := ifTe hb65 hm
                    refine svg (g := 2) (d := 56) (want := true) (b := decide (x81 ≥ 0)) A821 S821 rfl rfl rfl hb65 (opT_move (v := va3) rfl rfl) rfl ?_
                    clear A821 S821 a821 w821;intro a827 w827 A827 S827
                    refine svg (g := 2) (d := 56) (want := true) (b := decide (x81 ≥ 0)) A827 S827 rfl rfl rfl hb65 (opT_move (v := .int .i64 x81) rfl rfl) rfl ?_
                    clear A827 S827 a827 w827;intro a828 w828 A828 S828
                    obtain ⟨x85, e149, hm⟩ := bind_some hm
                    refine svg (g := 2) (d := 56) (want := true) (b := decide (x81 ≥ 0)) A828 S828 rfl rfl rfl hb65 (opT_index_hd (xs := p2) (i := x81) (n := 1) (Hd.of_rd ra3) Try.underlying22 ti4 rfl rfl rfl (getI_in e149)) rfl ?_
                    clear A828 S828 a828 w828;intro a829 w829 A829 S829
                    refine seq_op_g0 (g := 2) (d := 56) (want := true) (b := decide (x81 ≥ 0)) A829 S829 rfl rfl rfl hb65 (opT_load_el (S := rBool) (xs := p2) (a := x85) (i := x81) (k := 1) (off := 0) (f := fun (x : Bool) => x) ra3 e149 Fld.self ti4 rfl rfl rfl rfl rfl) rfl ?_
                    rintro u a830 w830 hf A830 S830
                    obtain rfl := lds_one hf
                    clear A829 S829 a829 w829
                    refine sv A830 S830 (opT_pick (b := decide (x81 ≥ 0)) (v := .bool x85) rfl rfl (ifT hb65)) rfl rfl ?_
                    clear A830 S830 a830 w830;intro a831 w831 A831 S831
                    refine wpList_nil ?_
                    replace A831 := A831.pick' (L' := [(1, va2), (2, va3), (3, .pointer (some ⟨g1, 0, none⟩)), (6, .pointer (some ⟨g2, 0, none⟩)), (7, .pointer (some ⟨g3, 0, none⟩)), (8, v154), (9, v155), (10, .int .i64 s17.2.2.1), (11, v156), (12, .int .i64 s23.2.2.2), (13, .int .i64 x81), (14, .int .i64 (-1)), (61, .bool x85)]) ⟨rfl, rfl, rfl, rfl, rfl, rfl, rfl, rfl, rfl, rfl, rfl, rfl, rfl, trivial⟩
                    refine nrm ?_
                    rcases two (x85) with hb66 | hb66
                    · replace hm := ifFe hb66 hm
                      refine cnd_false (b := x85) A831 rfl rfl hb66 ?_
                      refine wp_skip ?_
                      refine nrm ?_
                      obtain rfl := Option.some.inj hm
                      exact ⟨v154, v155, A831.pick' ⟨rfl, rfl, rfl, rfl, rfl, rfl, rfl, rfl, rfl, rfl, rfl, trivial⟩, St.sel S831 9 [2, 1, 0, 4, 5, 6, 7, 3, 8] rfl rfl⟩
                    · replace hm := ifTe hb66 hm
                      refine cnd_true (b := x85) A831 rfl rfl hb66 ?_
                      refine wp_seq ?_
                      refine wp_region_lit ?_
                      refine sv A831 S831 (opT_move (v := v154) rfl rfl) rfl rfl ?_
                      clear A831 S831 a831 w831;intro a832 w832 A832 S832
                      refine sv A832 S832 (opT_move (v := va2) rfl rfl) rfl rfl ?_
                      clear A832 S832 a832 w832;intro a833 w833 A833 S833
                      refine sv A833 S833 (opT_move (v := .int .i64 x81) rfl rfl) rfl rfl ?_
                      clear A833 S833 a833 w833;intro a834 w834 A834 S834
                      obtain ⟨x86, e150, hm⟩ := bind_some hm
                      refine sv A834 S834 (opT_index_hd (xs := p1) (i := x81) (n := 1) (Hd.of_rd ra2) Try.underlying34 ti3 rfl rfl rfl (getI_in e150)) rfl rfl ?_
                      clear A834 S834 a834 w834;intro a835 w835 A835 S835
                      refine seq_op0 A835 S835 (opT_load_el (S := rInt) (xs := p1) (a := x86) (i := x81) (k := 1) (off := 0) (f := fun (x : Int) => x) ra2 e150 Fld.self ti3 rfl rfl rfl rfl rfl) rfl rfl ?_
                      rintro u a836 w836 hf A836 S836
                      obtain rfl := lds_one hf
                      clear A835 S835 a835 w835
                      obtain ⟨r28, e151, hm⟩ := bind_some hm
                      refine seq_op A836 S836 rfl (OpT.lend (ls := [Ch.own (rSlice 3 rInt) [v154] s23.1]) (gv := fun v => []) (fun _ => trivial) fun J hJ hl hb => opT_call (args := #[v154, .int .i64 x86]) (first := #[]) (captured := #[]) en94 rfl rfl rfl (c_s_l11Find s23.1 x86 _ e151 v154 (hl _ _ _ (List.Mem.head _)))) (perm_front (i := 2) rfl) rfl ?_
                      rintro u a837 w837 hf A837 (S837 : St I w0 w837 [Ch.own (rSlice 3 rInt) [v154] s23.1, Ch.blk g1 [.int .i64 p0.1, va0, va1] 27, Ch.own (rSlice 3 rInt) [v155] s23.2.1, Ch.own (rSlice 3 rInt) [v156] s23.2.2.1, Ch.blk g2 [.int .i64 0, .slice none 0 0, .slice none 0 0] 27, Ch.blk g3 [.int .i64 0, v119, v120] 27, Ch.own (rSlice 4 rBool) [v119] s17.2.2.2.1, Ch.own (rSlice 34 (rSlice 3 rInt)) [v120] s17.2.2.2.2, F])
                      obtain rfl := Eq.symm hf
                      clear A836 S836 a836 w836
                      refine sv A837 S837 (opT_assign (v := .int .i64 r28) rfl rfl) rfl rfl ?_
                      clear A837 S837 a837 w837;intro a838 w838 A838 S838
                      refine wpList_nil ?_
                      replace A838 := A838.pick' (L' := [(1, va2), (2, va3), (3, .pointer (some ⟨g1, 0, none⟩)), (6, .pointer (some ⟨g2, 0, none⟩)), (7, .pointer (some ⟨g3, 0, none⟩)), (8, v154), (9, v155), (10, .int .i64 s17.2.2.1), (11, v156), (12, .int .i64 s23.2.2.2), (13, .int .i64 x81), (14, .int .i64 r28)]) ⟨rfl, rfl, rfl, rfl, rfl, rfl, rfl, rfl, rfl, rfl, rfl, rfl, trivial⟩
                      refine nrm ?_
                      refine wp_seq ?_
                      refine wp_region_lit ?_
                      refine sv A838 S838 (opT_move (v := .int .i64 r28) rfl rfl) rfl rfl ?_
                      clear A838 S838 a838 w838;intro a839 w839 A839 S839
                      refine sv A839 S839 (opT_cmp (k := .i64) (m := r28) (n := 0) (c := decide (r28 < 0)) rfl rfl rfl rfl rfl) rfl rfl ?_
                      clear A839 S839 a839 w839;intro a840 w840 A840 S840
                      refine wpList_nil ?_
                      replace A840 := A840.pick' (L' := [(1, va2), (2, va3), (3, .pointer (some ⟨g1, 0, none⟩)), (6, .pointer (some ⟨g2, 0, none⟩)), (7, .pointer (some ⟨g3, 0, none⟩)), (8, v154), (9, v155), (10, .int .i64 s17.2.2.1), (11, v156), (12, .int .i64 s23.2.2.2), (13, .int .i64 x81), (14, .int .i64 r28), (69, .bool (decide (r28 < 0)))]) ⟨rfl, rfl, rfl, rfl, rfl, rfl, rfl, rfl, rfl, rfl, rfl, rfl, rfl, trivial⟩
                      refine nrm ?_
                      rcases two (decide (r28 < 0)) with hb67 | hb67
                      · replace hm := ifFe hb67 hm
                        refine cnd_false (b := decide (r28 < 0)) A840 rfl rfl hb67 ?_
                        refine wp_skip ?_
                        refine nrm ?_
                        obtain rfl := Option.some.inj hm
                        exact ⟨v154, v155, A840.pick' ⟨rfl, rfl, rfl, rfl, rfl, rfl, rfl, rfl, rfl, rfl, rfl, trivial⟩, St.sel S840 9 [0, 2, 1, 4, 5, 6, 7, 3, 8] rfl rfl⟩
                      · replace hm := ifTe hb67 hm
                        refine cnd_true (b := decide (r28 < 0)) A840 rfl rfl hb67 ?_
                        refine wp_seq ?_
                        refine wp_region_lit ?_
                        refine sv A840 S840 (opT_move (v := v154) rfl rfl) rfl rfl ?_
                        clear A840 S840 a840 w840;intro a841 w841 A841 S841
                        refine sv A841 S841 (opT_len_hd (v := v154) (n := s23.1.length) (St.hd S841 0 rfl).1 Try.underlying34 rfl rfl) rfl rfl ?_
                        clear A841 S841 a841 w841;intro a842 w842 A842 S842
                        refine sv A842 S842 (opT_assign (v := .int .i64 (s23.1.length : Int)) rfl rfl) rfl rfl ?_
                        clear A842 S842 a842 w842;intro a843 w843 A843 S843
                        refine wpList_nil ?_
                        replace A843 := A843.pick' (L' := [(1, va2), (2, va3), (3, .pointer (some ⟨g1, 0, none⟩)), (6, .pointer (some ⟨g2, 0, none⟩)), (7, .pointer (some ⟨g3, 0, none⟩)), (8, v154), (9, v155), (10, .int .i64 s17.2.2.1), (11, v156), (12, .int .i64 s23.2.2.2), (13, .int .i64 x81), (14, .int .i64 (s23.1.length : Int))]) ⟨rfl, rfl, rfl, rfl, rfl, rfl, rfl, rfl, rfl, rfl, rfl, rfl, trivial⟩
                        refine nrm ?_
                        refine wp_seq ?_
                        refine wp_region_lit ?_
                        refine sv A843 S843 (opT_move (v := v154) rfl rfl) rfl rfl ?_
                        clear A843 S843 a843 w843;intro a844 w844 A844 S844
                        refine sv A844 S844 (opT_move (v := va2) rfl rfl) rfl rfl ?_
                        clear A844 S844 a844 w844;intro a845 w845 A845 S845
                        refine sv A845 S845 (opT_move (v := .int .i64 x81) rfl rfl) rfl rfl ?_
                        clear A845 S845 a845 w845;intro a846 w846 A846 S846
                        obtain ⟨x87, e152, hm⟩ := bind_some hm
                        refine sv A846 S846 (opT_index_hd (xs := p1) (i := x81) (n := 1) (Hd.of_rd ra2) Try.underlying34 ti3 rfl rfl rfl (getI_in e152)) rfl rfl ?_
                        clear A846 S846 a846 w846;intro a847 w847 A847 S847
                        refine seq_op0 A847 S847 (opT_load_el (S := rInt) (xs := p1) (a := x87) (i := x81) (k := 1) (off := 0) (f := fun (x : Int) => x) ra2 e152 Fld.self ti3 rfl rfl rfl rfl rfl) rfl rfl ?_
                        rintro u a848 w848 hf A848 S848
                        obtain rfl := lds_one hf
                        clear A847 S847 a847 w847
                        refine seq_op A848 S848 rfl (opT_lit_cpy (E := 3) (R := rInt) (S := rInt) [(.int .i64 x87, [.int .i64 x87])] [x87] cpy_int (rd_all ⟨rfl, trivial⟩) Try.underlying34 tz3 (by decide) rfl (by decide) (by decide) rfl rfl rfl rfl (us_all ⟨⟨rfl, rfl⟩, trivial⟩)) (List.Perm.refl _) rfl ?_
                        rintro v164 a849 w849 - A849 (S849 : St I w0 w849 [Ch.own (rSlice 3 rInt) [v164] ([x87]), Ch.own (rSlice 3 rInt) [v154] s23.1, Ch.blk g1 [.int .i64 p0.1, va0, va1] 27, Ch.own (rSlice 3 rInt) [v155] s23.2.1, Ch.own (rSlice 3 rInt) [v156] s23.2.2.1, Ch.blk g2 [.int .i64 0, .slice none 0 0, .slice none 0 0] 27, Ch.blk g3 [.int .i64 0, v119, v120] 27, Ch.own (rSlice 4 rBool) [v119] s17.2.2.2.1, Ch.own (rSlice 34 (rSlice 3 rInt)) [v120] s17.2.2.2.2, F])
                        clear A848 S848 a848 w848
                        obtain ⟨z47, e153, hm⟩ := bind_some hm
                        refine seq_op A849 S849 rfl (opT_app (E := 3) (R := rInt) (s := v154) (u := v164) e153 Try.underlying34 tz3 rfl (by decide) rfl (by decide) rfl rfl rfl) (perm_sel [1, 0, 2, 3, 4, 5, 6, 7, 8, 9] (m := 10) rfl rfl) rfl ?_
                        rintro v165 a850 w850 - A850 (S850 : St I w0 w850 [Ch.own (rSlice 3 rInt) [v165] z47, Ch.blk g1 [.int .i64 p0.1, va0, va1] 27, Ch.own (rSlice 3 rInt) [v155] s23.2.1, Ch.own (rSlice 3 rInt) [v156] s23.2.2.1, Ch.blk g2 [.int .i64 0, .slice none 0 0, .slice none 0 0] 27, Ch.blk g3 [.int .i64 0, v119, v120] 27, Ch.own (rSlice 4 rBool) [v119] s17.2.2.2.1, Ch.own (rSlice 34 (rSlice 3 rInt)) [v120] s17.2.2.2.2, F])
                        clear A849 S849 a849 w849
                        refine sv A850 S850 (opT_assign (v := v165) rfl rfl) rfl rfl ?_
                        clear A850 S850 a850 w850;intro a851 w851 A851 S851
                        refine wpList_nil ?_
                        replace A851 := A851.pick' (L' := [(1, va2), (2, va3), (3, .pointer (some ⟨g1, 0, none⟩)), (6, .pointer (some ⟨g2, 0, none⟩)), (7, .pointer (some ⟨g3, 0, none⟩)), (8, v165), (9, v155), (10, .int .i64 s17.2.2.1), (11, v156), (12, .int .i64 s23.2.2.2), (13, .int .i64 x81), (14, .int .i64 (s23.1.length : Int))]) ⟨rfl, rfl, rfl, rfl, rfl, rfl, rfl, rfl, rfl, rfl, rfl, rfl, trivial⟩
                        refine nrm ?_
                        refine wp_region_lit ?_
                        refine sv A851 S851 (opT_move (v := v155) rfl rfl) rfl rfl ?_
                        clear A851 S851 a851 w851;intro a852 w852 A852 S852
                        refine sv A852 S852 (opT_move (v := .int .i64 x81) rfl rfl) rfl rfl ?_
                        clear A852 S852 a852 w852;intro a853 w853 A853 S853
                        refine seq_op A853 S853 rfl (opT_lit_cpy (E := 3) (R := rInt) (S := rInt) [(.int .i64 x81, [.int .i64 x81])] [x81] cpy_int (rd_all ⟨rfl, trivial⟩) Try.underlying34 tz3 (by decide) rfl (by decide) (by decide) rfl rfl rfl rfl (us_all ⟨⟨rfl, rfl⟩, trivial⟩)) (List.Perm.refl _) rfl ?_
                        rintro v166 a854 w854 - A854 (S854 : St I w0 w854 [Ch.own (rSlice 3 rInt) [v166] ([x81]), Ch.own (rSlice 3 rInt) [v165] z47, Ch.blk g1 [.int .i64 p0.1, va0, va1] 27, Ch.own (rSlice 3 rInt) [v155] s23.2.1, Ch.own (rSlice 3 rInt) [v156] s23.2.2.1, Ch.blk g2 [.int .i64 0, .slice none 0 0, .slice none 0 0] 27, Ch.blk g3 [.int .i64 0, v119, v120] 27, Ch.own (rSlice 4 rBool) [v119] s17.2.2.2.1, Ch.own (rSlice 34 (rSlice 3 rInt)) [v120] s17.2.2.2.2, F])
                        clear A853 S853 a853 w853
                        obtain ⟨z48, e154, hm⟩ := bind_some hm
                        refine seq_op A854 S854 rfl (opT_app (E := 3) (R := rInt) (s := v155) (u := v166) e154 Try.underlying34 tz3 rfl (by decide) rfl (by decide) rfl rfl rfl) (perm_sel [3, 0, 1, 2, 4, 5, 6, 7, 8, 9] (m := 10) rfl rfl) rfl ?_
                        rintro v167 a855 w855 - A855 (S855 : St I w0 w855 [Ch.own (rSlice 3 rInt) [v167] z48, Ch.own (rSlice 3 rInt) [v165] z47, Ch.blk g1 [.int .i64 p0.1, va0, va1] 27, Ch.own (rSlice 3 rInt) [v156] s23.2.2.1, Ch.blk g2 [.int .i64 0, .slice none 0 0, .slice none 0 0] 27, Ch.blk g3 [.int .i64 0, v119, v120] 27, Ch.own (rSlice 4 rBool) [v119] s17.2.2.2.1, Ch.own (rSlice 34 (rSlice 3 rInt)) [v120] s17.2.2.2.2, F])
                        clear A854 S854 a854 w854
                        refine sv A855 S855 (opT_assign (v := v167) rfl rfl) rfl rfl ?_
                        clear A855 S855 a855 w855;intro a856 w856 A856 S856
                        refine wpList_nil ?_
                        replace A856 := A856.pick' (L' := [(1, va2), (2, va3), (3, .pointer (some ⟨g1, 0, none⟩)), (6, .pointer (some ⟨g2, 0, none⟩)), (7, .pointer (some ⟨g3, 0, none⟩)), (8, v165), (9, v167), (10, .int .i64 s17.2.2.1), (11, v156), (12, .int .i64 s23.2.2.2), (14, .int .i64 (s23.1.length : Int))]) ⟨rfl, rfl, rfl, rfl, rfl, rfl, rfl, rfl, rfl, rfl, rfl, trivial⟩
                        refine nrm ?_
                        obtain rfl := Option.some.inj hm
                        exact ⟨v165, v167, A856.pick' ⟨rfl, rfl, rfl, rfl, rfl, rfl, rfl, rfl, rfl, rfl, rfl, trivial⟩, St.sel S856 9 [1, 0, 2, 4, 5, 6, 7, 3, 8] rfl rfl⟩
                · rintro a857 w857 ⟨v162, v163, A857, S857⟩
                  refine wp_region_lit ?_
                  refine sv A857 S857 (opT_move (v := v156) rfl rfl) rfl rfl ?_
                  clear A857 S857 a857 w857;intro a858 w858 A858 S858
                  refine sv A858 S858 (opT_move (v := .int .i64 s25.2.2) rfl rfl) rfl rfl ?_
                  clear A858 S858 a858 w858;intro a859 w859 A859 S859
                  refine seq_op A859 S859 rfl (opT_lit_cpy (E := 3) (R := rInt) (S := rInt) [(.int .i64 s25.2.2, [.int .i64 s25.2.2])] [s25.2.2] cpy_int (rd_all ⟨rfl, trivial⟩) Try.underlying34 tz3 (by decide) rfl (by decide) (by decide) rfl rfl rfl rfl (us_all ⟨⟨rfl, rfl⟩, trivial⟩)) (List.Perm.refl _) rfl ?_
                  rintro v168 a860 w860 - A860 (S860 : St I w0 w860 [Ch.own (rSlice 3 rInt) [v168] ([s25.2.2]), Ch.own (rSlice 3 rInt) [v162] s25.1, Ch.own (rSlice 3 rInt) [v163] s25.2.1, Ch.blk g1 [.int .i64 p0.1, va0, va1] 27, Ch.blk g2 [.int .i64 0, .slice none 0 0, .slice none 0 0] 27, Ch.blk g3 [.int .i64 0, v119, v120] 27, Ch.own (rSlice 4 rBool) [v119] s17.2.2.2.1, Ch.own (rSlice 34 (rSlice 3 rInt)) [v120] s17.2.2.2.2, Ch.own (rSlice 3 rInt) [v156] s23.2.2.1, F])
                  clear A859 S859 a859 w859
                  obtain ⟨z49, e155, hm⟩ := bind_some hm
                  refine seq_op A860 S860 rfl (opT_app (E := 3) (R := rInt) (s := v156) (u := v168) e155 Try.underlying34 tz3 rfl (by decide) rfl (by decide) rfl rfl rfl) (perm_sel [8, 0, 1, 2, 3, 4, 5, 6, 7, 9] (m := 10) rfl rfl) rfl ?_
                  rintro v169 a861 w861 - A861 (S861 : St I w0 w861 [Ch.own (rSlice 3 rInt) [v169] z49, Ch.own (rSlice 3 rInt) [v162] s25.1, Ch.own (rSlice 3 rInt) [v163] s25.2.1, Ch.blk g1 [.int .i64 p0.1, va0, va1] 27, Ch.blk g2 [.int .i64 0, .slice none 0 0, .slice none 0 0] 27, Ch.blk g3 [.int .i64 0, v119, v120] 27, Ch.own (rSlice 4 rBool) [v119] s17.2.2.2.1, Ch.own (rSlice 34 (rSlice 3 rInt)) [v120] s17.2.2.2.2, F])
                  clear A860 S860 a860 w860
                  refine sv A861 S861 (opT_assign (v := v169) rfl rfl) rfl rfl ?_
                  clear A861 S861 a861 w861;intro a862 w862 A862 S862
                  refine wpList_nil ?_
                  replace A862 := A862.pick' (L' := [(1, va2), (2, va3), (3, .pointer (some ⟨g1, 0, none⟩)), (6, .pointer (some ⟨g2, 0, none⟩)), (7, .pointer (some ⟨g3, 0, none⟩)), (8, v162), (9, v163), (10, .int .i64 s17.2.2.1), (11, v169), (12, .int .i64 s23.2.2.2)]) ⟨rfl, rfl, rfl, rfl, rfl, rfl, rfl, rfl, rfl, rfl, trivial⟩
                  refine nrmB ?_
                  refine nrm ?_
                  refine wp_region_lit ?_
                  refine sv A862 S862 (opT_move (v := .int .i64 s23.2.2.2) rfl rfl) rfl rfl ?_
                  clear A862 S862 a862 w862;intro a863 w863 A863 S863
                  refine sv A863 S863 (opT_add (m := s23.2.2.2) (n := 1) rfl rfl rfl) rfl rfl ?_
                  clear A863 S863 a863 w863;intro a864 w864 A864 S864
                  refine sv A864 S864 (opT_assign (v := .int .i64 (IntKind.i64.wrap (s23.2.2.2 + 1))) rfl rfl) rfl rfl ?_
                  clear A864 S864 a864 w864;intro a865 w865 A865 S865
                  refine wpList_nil ?_
                  replace A865 := A865.pick' (L' := [(1, va2), (2, va3), (3, .pointer (some ⟨g1, 0, none⟩)), (6, .pointer (some ⟨g2, 0, none⟩)), (7, .pointer (some ⟨g3, 0, none⟩)), (8, v162), (9, v163), (10, .int .i64 s17.2.2.1), (11, v169), (12, .int .i64 (IntKind.i64.wrap (s23.2.2.2 + 1)))]) ⟨rfl, rfl, rfl, rfl, rfl, rfl, rfl, rfl, rfl, rfl, trivial⟩
                  refine nrm ?_
                  exact ⟨_, (Option.some.inj hm).symm, ⟨v162, v163, v169, A865.pick' ⟨rfl, rfl, rfl, rfl, rfl, rfl, rfl, rfl, rfl, rfl, trivial⟩, St.sel S865 9 [1, 2, 0, 3, 4, 5, 6, 7, 8] rfl rfl⟩⟩
          · rintro a866 w866 ⟨s24, ho12, v151, v152, v153, A866, S866⟩
            replace hm := loopOut ho12 hc12
            clear ho12 hc12 hl4
            refine nrm ?_
            refine wp_seq ?_
            obtain ⟨x88, e156, hm⟩ := bind_some hm
            have hd2 := (St.hd S866 1 rfl).1
            obtain ⟨x89, e157, hm⟩ := bind_some hm
            obtain ⟨z50, e158, hm⟩ := bind_some hm
            refine wp_draw (L := [(1, va2), (2, va3), (3, .pointer (some ⟨g1, 0, none⟩)), (6, .pointer (some ⟨g2, 0, none⟩)), (7, .pointer (some ⟨g3, 0, none⟩)), (8, v151), (9, v152), (10, .int .i64 s17.2.2.1), (11, v153)]) (C := [Ch.own (rSlice 3 rInt) [v151] s24.1, Ch.own (rSlice 3 rInt) [v153] s24.2.2.1, Ch.blk g2 [.int .i64 0, .slice none 0 0, .slice none 0 0] 27, Ch.own (rSlice 34 (rSlice 3 rInt)) [v120] s17.2.2.2.2, F]) { ops := [⟨[], [], [], [0], fun | [xo0] => xo0 = .pointer (some ⟨g3, 1, none⟩) | _ => True, [(7, none)]⟩, ⟨[0], [], [], [1], fun | [xo1] => xo1 = v119 | _ => True, [(87, some 0)]⟩, ⟨[], [], [], [2], fun | [xo2] => xo2 = .pointer (some ⟨g1, 1, none⟩) | _ => True, [(3, none)]⟩, ⟨[1], [], [], [3], fun | [xo3] => xo3 = va0 | _ => True, [(89, some 2)]⟩, ⟨[], [], [], [4], fun | [xo4] => xo4 = v152 | _ => True, [(9, none)]⟩, ⟨[], [], [], [5], fun | [xo5] => xo5 = .int .i64 s17.2.2.1 | _ => True, [(10, none)]⟩, ⟨[], [], [], [6], fun | [xo6] => xo6 = pt v152 (s17.2.2.1.toNat * 1) | _ => True, [(91, some 4), (92, some 5)]⟩, ⟨[2], [], [], [7], fun | [xo7] => xo7 = .int .i64 x88 | _ => True, [(93, some 6)]⟩, ⟨[], [], [], [8], fun | [xo8] => xo8 = pt va0 (x88.toNat * 1) | _ => True, [(90, some 3), (94, some 7)]⟩, ⟨[], [], [], [9], fun | [xo9] => xo9 = .bool x89 | _ => True, [(95, some 8)]⟩, ⟨[], [], [4], [10], fun | [xo10] => Hd xo10 ([x89]).length | _ => True, [(96, some 9)]⟩, ⟨[], [3, 4], [5], [11], fun | [xo11] => Hd xo11 (z50).length | _ => True, [(88, some 1), (97, some 10)]⟩, ⟨[], [], [], [12], fun | [xo12] => xo12 = .pointer (some ⟨g3, 1, none⟩) | _ => True, [(7, none)]⟩, ⟨[], [0], [6], [13], fun | [xo13] => True | _ => True, [(99, some 12), (98, some 11)]⟩], res := [⟨[], fun _ => Ch.blk g3 [.int .i64 0, v119, v120] 27⟩, ⟨[], fun _ => Ch.blk g1 [.int .i64 p0.1, va0, va1] 27⟩, ⟨[], fun _ => Ch.own (rSlice 3 rInt) [v152] s24.2.1⟩, ⟨[], fun _ => Ch.own (rSlice 4 rBool) [v119] s17.2.2.2.1⟩, ⟨[10], fun | [xo10] => Ch.own (rSlice 4 rBool) [xo10] ([x89]) | _ => Ch.fr (fun _ => none) []⟩, ⟨[11], fun | [xo11] => Ch.own (rSlice 4 rBool) [xo11] z50 | _ => Ch.fr (fun _ => none) []⟩, ⟨[11], fun | [xo11] => Ch.blk g3 [.int .i64 0, xo11, v120] 27 | _ => Ch.fr (fun _ => none) []⟩], base := [0, 1, 2, 3], pre := [[], [0], [], [2], [], [], [4, 5], [4, 5, 6], [2, 3, 4, 5, 6, 7], [2, 3, 4, 5, 6, 7, 8], [2, 3, 4, 5, 6, 7, 8, 9], [0, 1, 2, 3, 4, 5, 6, 7, 8, 9, 10], [0, 1, 2, 3, 4, 5, 6, 7, 8, 9, 10, 11], [0, 1, 2, 3, 4, 5, 6, 7, 8, 9, 10, 11, 12]], fin := [(1, none), (2, none), (3, none), (6, none), (7, none), (8, none), (9, none), (10, none), (11, none)], left := [1, 2, 5, 6] } (by kernel_rfl) A866 S866 (perm_sel [5, 3, 1, 6, 0, 2, 4, 7, 8] (m := 9) rfl rfl) (by kernel_rfl) (by kernel_rfl) ?_ ?_
            · exact ⟨Plan.goal_run fun vs hf => ⟨wants_none rfl, OpT.conv (OpT.evs (ev' := evL [(7, .pointer (some ⟨g3, 0, none⟩))]) (opT_field_addr (g := g3) (b := 0) tf27_1 rfl rfl) rfl [.tmp 7] rfl ⟨rfl, trivial⟩) rfl (fun _ h => Eq.trans h rfl) (fun _ => rfl)⟩, Plan.goal_run fun vs hf => ⟨wants_none rfl, OpT.conv (OpT.evs (ev' := evL [(87, .pointer (some ⟨g3, 1, none⟩))]) (opT_load_blk (g := g3) (off := 1) (E := 27) (l := [.int .i64 0, v119, v120]) (d := [v119]) (u := v119) ti22 rfl rfl rfl rfl rfl rfl) rfl [.tmp 87] rfl ⟨(hf 0 (mb rfl)), trivial⟩) rfl (fun _ h => Eq.trans h rfl) (fun _ => rfl)⟩, Plan.goal_run fun vs hf => ⟨wants_none rfl, OpT.conv (OpT.evs (ev' := evL [(3, .pointer (some ⟨g1, 0, none⟩))]) (opT_field_addr (g := g1) (b := 0) tf27_1 rfl rfl) rfl [.tmp 3] rfl ⟨rfl, trivial⟩) rfl (fun _ h => Eq.trans h rfl) (fun _ => rfl)⟩, Plan.goal_run fun vs hf => ⟨wants_none rfl, OpT.conv (OpT.evs (ev' := evL [(89, .pointer (some ⟨g1, 1, none⟩))]) (opT_load_blk (g := g1) (off := 1) (E := 27) (l := [.int .i64 p0.1, va0, va1]) (d := [va0]) (u := va0) ti22 rfl rfl rfl rfl rfl rfl) rfl [.tmp 89] rfl ⟨(hf 2 (mb rfl)), trivial⟩) rfl (fun _ h => Eq.trans h rfl) (fun _ => rfl)⟩, Plan.goal_run fun vs hf => ⟨wants_none rfl, OpT.conv (OpT.evs (ev' := evL [(9, v152)]) (opT_move (v := v152) rfl rfl) rfl [.tmp 9] rfl ⟨rfl, trivial⟩) rfl (fun _ h => Eq.trans h rfl) (fun _ => rfl)⟩, Plan.goal_run fun vs hf => ⟨wants_none rfl, OpT.conv (OpT.evs (ev' := evL [(10, .int .i64 s17.2.2.1)]) (opT_move (v := .int .i64 s17.2.2.1) rfl rfl) rfl [.tmp 10] rfl ⟨rfl, trivial⟩) rfl (fun _ h => Eq.trans h rfl) (fun _ => rfl)⟩, Plan.goal_run fun vs hf => ⟨wants_none rfl, OpT.conv (OpT.evs (ev' := evL [(91, v152), (92, .int .i64 s17.2.2.1)]) (opT_index_hd (xs := s24.2.1) (i := s17.2.2.1) (n := 1) hd2 Try.underlying34 ti3 rfl rfl rfl (getI_in e156)) rfl [.tmp 91, .tmp 92] rfl ⟨(hf 4 (mb rfl)), (hf 5 (mb rfl)), trivial⟩) rfl (fun _ h => Eq.trans h rfl) (fun _ => rfl)⟩, Plan.goal_run fun vs hf => ⟨wants_none rfl, OpT.conv (OpT.evs (ev' := evL [(93, pt v152 (s17.2.2.1.toNat * 1))]) (opT_load_own (E := 3) (R := rInt) (S := rInt) (xs := s24.2.1) (a := x88) (i := s17.2.2.1) (k := 1) (off := 0) (f := fun (x : Int) => x) sh_int e156 Fld.self ti3 rfl rfl rfl rfl rfl) rfl [.tmp 93] rfl ⟨(hf 6 (mb rfl)), trivial⟩) rfl (fun _ h => lds_one h) (fun _ => rfl)⟩, Plan.goal_run fun vs hf => ⟨wants_none rfl, OpT.conv (OpT.evs (ev' := evL [(90, va0), (94, .int .i64 x88)]) (opT_index_hd (xs := p0.2.1) (i := x88) (n := 1) (Hd.of_rd ra0) Try.underlying22 ti4 rfl rfl rfl (getI_in e157)) rfl [.tmp 90, .tmp 94] rfl ⟨(hf 3 (mb rfl)), (hf 7 (mb rfl)), trivial⟩) rfl (fun _ h => Eq.trans h rfl) (fun _ => rfl)⟩, Plan.goal_run fun vs hf => ⟨wants_none rfl, OpT.conv (OpT.evs (ev' := evL [(95, pt va0 (x88.toNat * 1))]) (opT_load_el (S := rBool) (xs := p0.2.1) (a := x89) (i := x88) (k := 1) (off := 0) (f := fun (x : Bool) => x) ra0 e157 Fld.self ti4 rfl rfl rfl rfl rfl) rfl [.tmp 95] rfl ⟨(hf 8 (mb rfl)), trivial⟩) rfl (fun _ h => lds_one h) (fun _ => rfl)⟩, Plan.goal_run fun vs hf => ⟨wants_none rfl, OpT.conv (OpT.evs (ev' := evL [(96, .bool x89)]) (OpT.hdk (E := 4) (R := rBool) (xs := [x89]) (fun v => v) 0 (fun _ => rfl) (opT_lit_cpy (E := 4) (R := rBool) (S := rBool) [(.bool x89, [.bool x89])] [x89] cpy_bool (rd_all ⟨rfl, trivial⟩) Try.underlying22 tz4 (by decide) rfl (by decide) (by decide) rfl rfl rfl rfl (us_all ⟨⟨rfl, rfl⟩, trivial⟩))) rfl [.tmp 96] rfl ⟨(hf 9 (mb rfl)), trivial⟩) rfl (fun _ h => h.2) (fun _ => rfl)⟩, Plan.goal_run fun vs hf => ⟨wants_none rfl, OpT.conv (OpT.evs (ev' := evL [(88, v119), (97, (vs 10))]) (OpT.hdk (E := 4) (R := rBool) (xs := z50) (fun v => v) 0 (fun _ => rfl) (opT_app (E := 4) (R := rBool) (s := v119) (u := (vs 10)) e158 Try.underlying22 tz4 rfl (by decide) rfl (by decide) rfl rfl rfl)) rfl [.tmp 88, .tmp 97] rfl ⟨(hf 1 (mb rfl)), rfl, trivial⟩) rfl (fun _ h => h.2) (fun _ => rfl)⟩, Plan.goal_run fun vs hf => ⟨wants_none rfl, OpT.conv (OpT.evs (ev' := evL [(7, .pointer (some ⟨g3, 0, none⟩))]) (opT_field_addr (g := g3) (b := 0) tf27_1 rfl rfl) rfl [.tmp 7] rfl ⟨rfl, trivial⟩) rfl (fun _ h => Eq.trans h rfl) (fun _ => rfl)⟩, Plan.goal_run fun vs hf => ⟨wants_none rfl, OpT.conv (OpT.evs (ev' := evL [(99, .pointer (some ⟨g3, 1, none⟩)), (98, (vs 11))]) (opT_store_blk (g := g3) (off := 1) (l := [.int .i64 0, v119, v120]) (d := [(vs 11)]) (E := 27) (u := (vs 11)) ti22 rfl rfl rfl (Hd.cells (show Hd (vs 11) (z50).length from (hf 11 (mb rfl)))) rfl (allC (Hd.one (show Hd (vs 11) (z50).length from (hf 11 (mb rfl)))) allN) (Nat.le_of_ble_eq_true rfl)) rfl [.tmp 99, .tmp 98] rfl ⟨(hf 12 (mb rfl)), rfl, trivial⟩) rfl (fun _ _ => trivial) (fun _ => rfl)⟩, trivial⟩
            intro vs a867 w867 hf A867 S867
            clear A866 S866
            replace A867 := A867.pick' (L' := [(1, va2), (2, va3), (3, .pointer (some ⟨g1, 0, none⟩)), (6, .pointer (some ⟨g2, 0, none⟩)), (7, .pointer (some ⟨g3, 0, none⟩)), (8, v151), (9, v152), (10, .int .i64 s17.2.2.1), (11, v153)]) ⟨rfl, rfl, rfl, rfl, rfl, rfl, rfl, rfl, rfl, trivial⟩
            replace S867 : St I w0 w867 [Ch.blk g1 [.int .i64 p0.1, va0, va1] 27, Ch.own (rSlice 3 rInt) [v152] s24.2.1, Ch.own (rSlice 4 rBool) [(vs 11)] z50, Ch.blk g3 [.int .i64 0, (vs 11), v120] 27, Ch.own (rSlice 3 rInt) [v151] s24.1, Ch.own (rSlice 3 rInt) [v153] s24.2.2.1, Ch.blk g2 [.int .i64 0, .slice none 0 0, .slice none 0 0] 27, Ch.own (rSlice 34 (rSlice 3 rInt)) [v120] s17.2.2.2.2, F] := S867
            obtain ⟨v171, ea1⟩ : ∃ x, x = (vs 11) := ⟨_, rfl⟩
            try rw [← ea1] at A867
            try rw [← ea1] at S867
            clear ea1
            clear hf vs
            refine nrm ?_
            refine wp_region_lit ?_
            refine sv A867 S867 (opT_field_addr (g := g3) (b := 0) tf27_2 rfl rfl) rfl rfl ?_
            clear A867 S867 a867 w867;intro a868 w868 A868 S868
            refine seq_op A868 S868 rfl (opT_load_blk (g := g3) (off := 2) (E := 27) (l := [.int .i64 0, v171, v120]) (d := [v120]) (u := v120) ti23 rfl rfl rfl rfl rfl rfl) (perm_front (i := 3) rfl) rfl ?_
            rintro u a869 w869 hf A869 (S869 : St I w0 w869 [Ch.blk g3 [.int .i64 0, v171, v120] 27, Ch.blk g1 [.int .i64 p0.1, va0, va1] 27, Ch.own (rSlice 3 rInt) [v152] s24.2.1, Ch.own (rSlice 4 rBool) [v171] z50, Ch.own (rSlice 3 rInt) [v151] s24.1, Ch.own (rSlice 3 rInt) [v153] s24.2.2.1, Ch.blk g2 [.int .i64 0, .slice none 0 0, .slice none 0 0] 27, Ch.own (rSlice 34 (rSlice 3 rInt)) [v120] s17.2.2.2.2, F])
            obtain rfl := Eq.symm hf
            clear A868 S868 a868 w868
            refine sv A869 S869 (opT_move (v := v153) rfl rfl) rfl rfl ?_
            clear A869 S869 a869 w869;intro a870 w870 A870 S870
            refine seq_op A870 S870 rfl (opT_lit (E := 34) (R := rSlice 3 rInt) [(v153, [v153])] [s24.2.2.1] Try.underlying23 tz34 (by decide) rfl (by decide) (by decide) rfl rfl rfl rfl (us_all ⟨⟨(Hd.cells (St.hd S870 5 rfl).1), rfl⟩, trivial⟩)) (perm_front (i := 5) rfl) rfl ?_
            rintro v172 a871 w871 - A871 (S871 : St I w0 w871 [Ch.own (rSlice 34 (rSlice 3 rInt)) [v172] ([s24.2.2.1]), Ch.blk g3 [.int .i64 0, v171, v120] 27, Ch.blk g1 [.int .i64 p0.1, va0, va1] 27, Ch.own (rSlice 3 rInt) [v152] s24.2.1, Ch.own (rSlice 4 rBool) [v171] z50, Ch.own (rSlice 3 rInt) [v151] s24.1, Ch.blk g2 [.int .i64 0, .slice none 0 0, .slice none 0 0] 27, Ch.own (rSlice 34 (rSlice 3 rInt)) [v120] s17.2.2.2.2, F])
            clear A870 S870 a870 w870
            obtain ⟨z51, e159, hm⟩ := bind_some hm
            refine seq_op A871 S871 rfl (opT_app (E := 34) (R := rSlice 3 rInt) (s := v120) (u := v172) e159 Try.underlying23 tz34 rfl (by decide) rfl (by decide) rfl rfl rfl) (perm_sel [7, 0, 1, 2, 3, 4, 5, 6, 8] (m := 9) rfl rfl) rfl ?_
            rintro v173 a872 w872 - A872 (S872 : St I w0 w872 [Ch.own (rSlice 34 (rSlice 3 rInt)) [v173] z51, Ch.blk g3 [.int .i64 0, v171, v120] 27, Ch.blk g1 [.int .i64 p0.1, va0, va1] 27, Ch.own (rSlice 3 rInt) [v152] s24.2.1, Ch.own (rSlice 4 rBool) [v171] z50, Ch.own (rSlice 3 rInt) [v151] s24.1, Ch.blk g2 [.int .i64 0, .slice none 0 0, .slice none 0 0] 27, F])
            clear A871 S871 a871 w871
            refine sv A872 S872 (opT_field_addr (g := g3) (b := 0) tf27_2 rfl rfl) rfl rfl ?_
            clear A872 S872 a872 w872;intro a873 w873 A873 S873
            refine seq_op A873 S873 rfl (opT_store_blk (g := g3) (off := 2) (l := [.int .i64 0, v171, v120]) (d := [v173]) (E := 27) (u := v173) ti23 rfl rfl rfl (Hd.cells (St.hd S873 0 rfl).1) rfl (allC (Hd.one (St.hd S873 0 rfl).1) allN) (Nat.le_of_ble_eq_true rfl)) (perm_front (i := 1) rfl) rfl ?_
            rintro _ a874 w874 - A874 (S874 : St I w0 w874 [Ch.blk g3 [.int .i64 0, v171, v173] 27, Ch.own (rSlice 34 (rSlice 3 rInt)) [v173] z51, Ch.blk g1 [.int .i64 p0.1, va0, va1] 27, Ch.own (rSlice 3 rInt) [v152] s24.2.1, Ch.own (rSlice 4 rBool) [v171] z50, Ch.own (rSlice 3 rInt) [v151] s24.1, Ch.blk g2 [.int .i64 0, .slice none 0 0, .slice none 0 0] 27, F])
            clear A873 S873 a873 w873
            refine wpList_nil ?_
            replace A874 := A874.pick' (L' := [(1, va2), (2, va3), (3, .pointer (some ⟨g1, 0, none⟩)), (6, .pointer (some ⟨g2, 0, none⟩)), (7, .pointer (some ⟨g3, 0, none⟩)), (8, v151), (9, v152), (10, .int .i64 s17.2.2.1)]) ⟨rfl, rfl, rfl, rfl, rfl, rfl, rfl, rfl, trivial⟩
            refine nrmB ?_
            refine nrm ?_
            refine wp_region_lit ?_
            refine sv A874 S874 (opT_move (v := .int .i64 s17.2.2.1) rfl rfl) rfl rfl ?_
            clear A874 S874 a874 w874;intro a875 w875 A875 S875
            refine sv A875 S875 (opT_add (m := s17.2.2.1) (n := 1) rfl rfl rfl) rfl rfl ?_
            clear A875 S875 a875 w875;intro a876 w876 A876 S876
            refine sv A876 S876 (opT_assign (v := .int .i64 (IntKind.i64.wrap (s17.2.2.1 + 1))) rfl rfl) rfl rfl ?_
            clear A876 S876 a876 w876;intro a877 w877 A877 S877
            refine wpList_nil ?_
            replace A877 := A877.pick' (L' := [(1, va2), (2, va3), (3, .pointer (some ⟨g1, 0, none⟩)), (6, .pointer (some ⟨g2, 0, none⟩)), (7, .pointer (some ⟨g3, 0, none⟩)), (8, v151), (9, v152), (10, .int .i64 (IntKind.i64.wrap (s17.2.2.1 + 1)))]) ⟨rfl, rfl, rfl, rfl, rfl, rfl, rfl, rfl, trivial⟩
            refine nrm ?_
            exact ⟨_, (Option.some.inj hm).symm, ⟨v151, v152, v171, v173, A877.pick' ⟨rfl, rfl, rfl, rfl, rfl, rfl, rfl, rfl, trivial⟩, St.sel S877 8 [5, 3, 4, 1, 2, 6, 0, 7] rfl rfl⟩⟩
    · rintro a878 w878 ⟨s18, ho13, v115, v116, A878, S878⟩
      replace hm := loopOut ho13 hc9
      clear ho13 hc9 hl3
      refine nrm ?_
      refine wp_seq ?_
      refine wp_region_lit ?_
      refine seq_op A878 S878 rfl (opT_load_blk (g := g3) (off := 0) (E := 27) (l := [.int .i64 0, v115, v116]) (d := [.int .i64 0, v115, v116]) (u := .agg #[.int .i64 0, v115, v116]) ti27 rfl rfl rfl rfl rfl rfl) (perm_front (i := 3) rfl) rfl ?_
      rintro u a879 w879 hf A879 (S879 : St I w0 w879 [Ch.blk g3 [.int .i64 0, v115, v116] 27, Ch.own (rSlice 4 rBool) [v115] s18.2.2.2.1, Ch.own (rSlice 34 (rSlice 3 rInt)) [v116] s18.2.2.2.2, Ch.blk g2 [.int .i64 0, .slice none 0 0, .slice none 0 0] 27, F])
      obtain rfl := Eq.symm hf
      clear A878 S878 a878 w878
      refine seq_op A879 S879 rfl (opT_store_blk (g := g2) (off := 0) (l := [.int .i64 0, .slice none 0 0, .slice none 0 0]) (d := [.int .i64 0, v115, v116]) (E := 27) (u := .agg #[.int .i64 0, v115, v116]) ti27 rfl rfl rfl rfl rfl (allC rfl (allC (Hd.one (St.hd S879 1 rfl).1) (allC (Hd.one (St.hd S879 2 rfl).1) allN))) (Nat.le_of_ble_eq_true rfl)) (perm_front (i := 3) rfl) rfl ?_
      rintro _ a880 w880 - A880 (S880 : St I w0 w880 [Ch.blk g2 [.int .i64 0, v115, v116] 27, Ch.blk g3 [.int .i64 0, v115, v116] 27, Ch.own (rSlice 4 rBool) [v115] s18.2.2.2.1, Ch.own (rSlice 34 (rSlice 3 rInt)) [v116] s18.2.2.2.2, F])
      clear A879 S879 a879 w879
      refine wpList_nil ?_
      replace A880 := A880.pick' (L' := [(6, .pointer (some ⟨g2, 0, none⟩))]) ⟨rfl, trivial⟩
      refine nrm ?_
      refine wp_ret ?_
      obtain rfl := Option.some.inj hm
      exact ret_1 A880 rfl (res_cell (g := g2) A880 rfl S880 0 rfl ti27 rfl) ⟨_, rfl, ⟨_, _, rfl⟩, _, Hp.le.rfl, St.sel (S880) 5 [2, 3, 4] rfl rfl⟩
set_option maxHeartbeats 8000000 in
theorem c_g_math_bits_Mul (p0x : Int) (p1y : Int) (r : Int × Int) (hm : m_g_math_bits_Mul p0x p1y = some r) {I : Hp} {w0 : World} : Con Try.prog 171 #[.int .u64 p0x, .int .u64 p1y] I w0 [] (fun v => v = .tuple #[.int .u64 r.1, .int .u64 r.2]) (fun v => []) := by
  refine con_of_wp (n := 30) [(0, .int .u64 p0x), (1, .int .u64 p1y)] Try.func171 rfl rfl (Nat.le_of_ble_eq_true rfl) (args_all ⟨rfl, rfl, trivial⟩) (fun F w a ha hs => ?_) (fun v => trivial)
  unfold m_g_math_bits_Mul at hm
  refine wp_seq ?_
  refine wp_region_lit ?_
  refine sv ha hs (opT_assign (v := .int .u64 0) rfl rfl) rfl rfl ?_
  clear ha hs a w;intro a1 w1 A1 S1
  refine sv A1 S1 (opT_assign (v := .int .u64 0) rfl rfl) rfl rfl ?_
  clear A1 S1 a1 w1;intro a2 w2 A2 S2
  refine wpList_nil ?_
  replace A2 := A2.pick' (L' := [(0, .int .u64 p0x), (1, .int .u64 p1y)]) ⟨rfl, rfl, trivial⟩
  refine nrm ?_
  refine wp_seq ?_
  refine cnd_false (b := false) A2 rfl rfl rfl ?_
  refine wp_skip ?_
  refine nrm ?_
  refine wp_seq ?_
  refine wp_region_lit ?_
  refine sv A2 S2 (opT_move (v := .int .u64 p0x) rfl rfl) rfl rfl ?_
  clear A2 S2 a2 w2;intro a3 w3 A3 S3
  refine sv A3 S3 (opT_move (v := .int .u64 p1y) rfl rfl) rfl rfl ?_
  clear A3 S3 a3 w3;intro a4 w4 A4 S4
  obtain ⟨r1, e1, hm⟩ := bind_some hm
  refine seq_op0 A4 S4 (opT_call (args := #[.int .u64 p0x, .int .u64 p1y]) (first := #[]) (captured := #[]) en188 rfl rfl rfl (c_g_math_bits_Mul64 p0x p1y _ e1  )) rfl rfl ?_
  rintro u a5 w5 hf A5 S5
  obtain rfl := Eq.symm hf
  clear A4 S4 a4 w4
  refine sv A5 S5 (opT_move (v := .tuple #[.int .u64 r1.1, .int .u64 r1.2]) rfl rfl) rfl rfl ?_
  clear A5 S5 a5 w5;intro a6 w6 A6 S6
  refine sv A6 S6 (opT_extract (vs := #[.int .u64 r1.1, .int .u64 r1.2]) (v := .int .u64 r1.1) rfl rfl rfl) rfl rfl ?_
  clear A6 S6 a6 w6;intro a7 w7 A7 S7
  refine sv A7 S7 (opT_extract (vs := #[.int .u64 r1.1, .int .u64 r1.2]) (v := .int .u64 r1.2) rfl rfl rfl) rfl rfl ?_
  clear A7 S7 a7 w7;intro a8 w8 A8 S8
  refine sv A8 S8 (opT_assign (v := .int .u64 r1.1) rfl rfl) rfl rfl ?_
  clear A8 S8 a8 w8;intro a9 w9 A9 S9
  refine sv A9 S9 (opT_assign (v := .int .u64 r1.2) rfl rfl) rfl rfl ?_
  clear A9 S9 a9 w9;intro a10 w10 A10 S10
  refine wpList_nil ?_
  replace A10 := A10.pick' (L' := [(8, .int .u64 r1.1), (9, .int .u64 r1.2)]) ⟨rfl, rfl, trivial⟩
  refine nrm ?_
  refine wp_seq ?_
  refine wp_region_lit ?_
  refine sv A10 S10 (opT_move (v := .int .u64 r1.1) rfl rfl) rfl rfl ?_
  clear A10 S10 a10 w10;intro a11 w11 A11 S11
  refine sv A11 S11 (opT_move (v := .int .u64 r1.2) rfl rfl) rfl rfl ?_
  clear A11 S11 a11 w11;intro a12 w12 A12 S12
  refine sv A12 S12 (opT_assign (v := .int .u64 r1.1) rfl rfl) rfl rfl ?_
  clear A12 S12 a12 w12;intro a13 w13 A13 S13
  refine sv A13 S13 (opT_assign (v := .int .u64 r1.2) rfl rfl) rfl rfl ?_
  clear A13 S13 a13 w13;intro a14 w14 A14 S14
  refine wpList_nil ?_
  replace A14 := A14.pick' (L' := [(4, .int .u64 r1.1), (5, .int .u64 r1.2)]) ⟨rfl, rfl, trivial⟩
  refine nrm ?_
  refine wp_ret ?_
  obtain rfl := Option.some.inj hm
  exact ret_2 A14 rfl (res_tmp A14 rfl) (res_tmp A14 rfl) ⟨_, rfl, rfl, _, Hp.le.rfl, St.sel (S14) 1 [0] rfl rfl⟩
end Go.Proofs.Ytcihbmdppgpmjaa.D
