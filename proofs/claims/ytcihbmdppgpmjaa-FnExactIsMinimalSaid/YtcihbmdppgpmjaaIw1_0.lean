/- Printed by dec.py: models of functions and the walks that show them. -/
import Derived.Test.YtcihbmdppgpmjaaIw0_3
set_option linter.unusedVariables false
set_option linter.unusedSimpArgs false
set_option linter.unnecessarySimpa false
set_option maxRecDepth 100000
namespace Go.Proofs.Ytcihbmdppgpmjaa.D
open Go.RowKit
set_option maxHeartbeats 8000000 in
theorem c_s_l11Number (p0 : Int × (List Bool) × (List (List Int))) (p1 : List Int) (p2 : List Bool) (r : Int × (List Bool) × (List (List Int))) (hm : m_s_l11Number p0 p1 p2 = some r) {I : Hp} {w0 : World} (va0 : Value) (va1 : Value) (va2 : Value) (va3 : Value) (ra0 : (rSlice 4 rBool).rd I [va0] p0.2.1) (ra1 : (rSlice 34 (rSlice 3 rInt)).rd I [va1] p0.2.2) (ra2 : (rSlice 3 rInt).rd I [va2] p1) (ra3 : (rSlice 4 rBool).rd I [va3] p2) : Con Try.prog 47 #[.agg #[.int .i64 p0.1, va0, va1], va2, va3] I w0 [] (fun v => ∃ h0 h1 : Value, v = .agg #[.int .i64 r.1, h0, h1]) (fun v => [Ch.own (rSlice 4 rBool) [vg v [1]] r.2.1, Ch.own (rSlice 34 (rSlice 3 rInt)) [vg v [2]] r.2.2]) := by
  refine con_of_wp (n := 107) [(0, .agg #[.int .i64 p0.1, va0, va1]), (1, va2), (2, va3)] Try.func47 rfl rfl (Nat.le_of_ble_eq_true rfl) (args_all ⟨rfl, rfl, rfl, trivial⟩) (fun F w a ha hs => ?_) (fun v => ⟨dp_own (dp_slice dp_bool), dp_own (dp_slice (dp_slice dp_int)), trivial⟩)
  unfold m_s_l11Number at hm
  refine wp_seq ?_
  refine wp_region_lit ?_
  refine seq_op ha hs rfl (opT_box (u := .agg #[.int .i64 p0.1, va0, va1]) (l := [.int .i64 p0.1, va0, va1]) rfl rfl rfl) (List.Perm.refl _) rfl ?_
  rintro _ aq1 wq1 ⟨g1, rfl⟩ haq1 (hsq1 : St I w0 wq1 [Ch.blk g1 [.int .i64 p0.1, va0, va1] 27, F])
  clear ha hs a w
  refine seq_op haq1 hsq1 rfl (opT_alloc (l := [.int .i64 0, .slice none 0 0, .slice none 0 0]) tz27 rfl rfl) (List.Perm.refl _) rfl ?_
  rintro _ aq2 wq2 ⟨g2, rfl⟩ haq2 (hsq2 : St I w0 wq2 [Ch.blk g2 [.int .i64 0, .slice none 0 0, .slice none 0 0] 27, Ch.blk g1 [.int .i64 p0.1, va0, va1] 27, F])
  clear haq1 hsq1 aq1 wq1
  refine wpList_nil ?_
  replace haq2 := haq2.pick' (L' := [(1, va2), (2, va3), (3, .pointer (some ⟨g1, 0, none⟩)), (6, .pointer (some ⟨g2, 0, none⟩))]) ⟨rfl, rfl, rfl, rfl, trivial⟩
  refine nrm ?_
  refine wp_seq ?_
  refine wp_seq ?_
  refine wp_region_lit ?_
  refine seq_op0 haq2 hsq2 (opT_move (v := va3) rfl rfl) rfl rfl ?_
  rintro u aq3 wq3 hf haq3 hsq3
  obtain rfl := Eq.symm hf
  clear haq2 hsq2 aq2 wq2
  refine seq_op0 haq3 hsq3 (opT_field_addr (g := g1) (b := 0) tf27_0 rfl rfl) rfl rfl ?_
  rintro u aq4 wq4 hf haq4 hsq4
  obtain rfl := Eq.symm hf
  clear haq3 hsq3 aq3 wq3
  refine seq_op haq4 hsq4 rfl (opT_load_blk (g := g1) (off := 0) (E := 27) (l := [.int .i64 p0.1, va0, va1]) (d := [.int .i64 p0.1]) (u := .int .i64 p0.1) ti3 rfl rfl rfl rfl rfl rfl) (perm_front (i := 1) rfl) rfl ?_
  rintro u aq5 wq5 hf haq5 (hsq5 : St I w0 wq5 [Ch.blk g1 [.int .i64 p0.1, va0, va1] 27, Ch.blk g2 [.int .i64 0, .slice none 0 0, .slice none 0 0] 27, F])
  obtain rfl := Eq.symm hf
  clear haq4 hsq4 aq4 wq4
  obtain ⟨x1, e1, hm⟩ := bind_some hm
  refine seq_op0 haq5 hsq5 (opT_index_hd (xs := p2) (i := p0.1) (n := 1) (Hd.of_rd ra3) Try.underlying22 ti4 rfl rfl rfl (getI_in e1)) rfl rfl ?_
  rintro u aq6 wq6 hf haq6 hsq6
  obtain rfl := Eq.symm hf
  clear haq5 hsq5 aq5 wq5
  refine seq_op0 haq6 hsq6 (opT_load_el (S := rBool) (xs := p2) (a := x1) (i := p0.1) (k := 1) (off := 0) (f := fun (x : Bool) => x) ra3 e1 Fld.self ti4 rfl rfl rfl rfl rfl) rfl rfl ?_
  rintro u aq7 wq7 hf haq7 hsq7
  obtain rfl := lds_one hf
  clear haq6 hsq6 aq6 wq6
  refine seq_op0 haq7 hsq7 (opT_not (b := x1) rfl rfl) rfl rfl ?_
  rintro u aq8 wq8 hf haq8 hsq8
  obtain rfl := Eq.symm hf
  clear haq7 hsq7 aq7 wq7
  refine wpList_nil ?_
  replace haq8 := haq8.pick' (L' := [(1, va2), (2, va3), (3, .pointer (some ⟨g1, 0, none⟩)), (6, .pointer (some ⟨g2, 0, none⟩)), (20, .bool (!x1))]) ⟨rfl, rfl, rfl, rfl, rfl, trivial⟩
  refine nrm ?_
  rcases two (x1) with hb1 | hb1
  · replace hm := ifFe hb1 hm
    refine cnd_true (b := !x1) haq8 rfl rfl (notT hb1) ?_
    refine wp_seq ?_
    refine wp_region_lit ?_
    obtain ⟨r1, e2, hm⟩ := bind_some hm
    refine seq_op haq8 hsq8 rfl (opT_call (args := #[]) (first := #[]) (captured := #[]) en93 rfl rfl rfl (c_s_l11Nothing  _ e2  )) (List.Perm.refl _) rfl ?_
    rintro u aq9 wq9 ⟨v1, v2, rfl⟩ haq9 (hsq9 : St I w0 wq9 [Ch.own (rSlice 4 rBool) [v1] r1.2.1, Ch.own (rSlice 34 (rSlice 3 rInt)) [v2] r1.2.2, Ch.blk g1 [.int .i64 p0.1, va0, va1] 27, Ch.blk g2 [.int .i64 0, .slice none 0 0, .slice none 0 0] 27, F])
    clear haq8 hsq8 aq8 wq8
    refine seq_op haq9 hsq9 rfl (opT_store_blk (g := g2) (off := 0) (l := [.int .i64 0, .slice none 0 0, .slice none 0 0]) (d := [.int .i64 r1.1, v1, v2]) (E := 27) (u := .agg #[.int .i64 r1.1, v1, v2]) ti27 rfl rfl rfl rfl rfl (allC rfl (allC (Hd.one (St.hd hsq9 0 rfl).1) (allC (Hd.one (St.hd hsq9 1 rfl).1) allN))) (Nat.le_of_ble_eq_true rfl)) (perm_front (i := 3) rfl) rfl ?_
    rintro _ aq10 wq10 - haq10 (hsq10 : St I w0 wq10 [Ch.blk g2 [.int .i64 r1.1, v1, v2] 27, Ch.own (rSlice 4 rBool) [v1] r1.2.1, Ch.own (rSlice 34 (rSlice 3 rInt)) [v2] r1.2.2, Ch.blk g1 [.int .i64 p0.1, va0, va1] 27, F])
    clear haq9 hsq9 aq9 wq9
    refine wpList_nil ?_
    replace haq10 := haq10.pick' (L' := [(6, .pointer (some ⟨g2, 0, none⟩))]) ⟨rfl, trivial⟩
    refine nrm ?_
    refine wp_ret ?_
    refine thenR ?_
    obtain rfl := Option.some.inj hm
    exact ret_1 haq10 rfl (res_cell (g := g2) haq10 rfl hsq10 0 rfl ti27 rfl) ⟨_, rfl, ⟨_, _, rfl⟩, _, Hp.le.rfl, St.sel (hsq10) 5 [1, 2, 4] rfl rfl⟩
  · replace hm := ifTe hb1 hm
    refine cnd_false (b := !x1) haq8 rfl rfl (notF hb1) ?_
    refine wp_skip ?_
    refine nrm ?_
    refine wp_seq ?_
    refine wp_region_lit ?_
    refine seq_op0 haq8 hsq8 (opT_build (zl := [.int .i64 0, .slice none 0 0, .slice none 0 0]) (r := [.int .i64 0, .slice none 0 0, .slice none 0 0]) [] tb27 tz27 rfl rfl trivial rfl) rfl rfl ?_
    rintro u aq11 wq11 hf haq11 hsq11
    obtain rfl := Eq.symm hf
    clear haq8 hsq8 aq8 wq8
    refine seq_op haq11 hsq11 rfl (opT_alloc (l := [.int .i64 0, .slice none 0 0, .slice none 0 0]) tz27 rfl rfl) (List.Perm.refl _) rfl ?_
    rintro _ aq12 wq12 ⟨g3, rfl⟩ haq12 (hsq12 : St I w0 wq12 [Ch.blk g3 [.int .i64 0, .slice none 0 0, .slice none 0 0] 27, Ch.blk g1 [.int .i64 p0.1, va0, va1] 27, Ch.blk g2 [.int .i64 0, .slice none 0 0, .slice none 0 0] 27, F])
    clear haq11 hsq11 aq11 wq11
    refine seq_op haq12 hsq12 rfl (opT_store_blk (g := g3) (off := 0) (l := [.int .i64 0, .slice none 0 0, .slice none 0 0]) (d := [.int .i64 0, .slice none 0 0, .slice none 0 0]) (E := 27) (u := .agg #[.int .i64 0, .slice none 0 0, .slice none 0 0]) ti27 rfl rfl rfl rfl rfl (allC rfl (allC rfl (allC rfl allN))) (Nat.le_of_ble_eq_true rfl)) (perm_front (i := 0) rfl) rfl ?_
    rintro _ aq13 wq13 - haq13 (hsq13 : St I w0 wq13 [Ch.blk g3 [.int .i64 0, .slice none 0 0, .slice none 0 0] 27, Ch.blk g1 [.int .i64 p0.1, va0, va1] 27, Ch.blk g2 [.int .i64 0, .slice none 0 0, .slice none 0 0] 27, F])
    clear haq12 hsq12 aq12 wq12
    refine wpList_nil ?_
    replace haq13 := haq13.pick' (L' := [(1, va2), (2, va3), (3, .pointer (some ⟨g1, 0, none⟩)), (6, .pointer (some ⟨g2, 0, none⟩)), (7, .pointer (some ⟨g3, 0, none⟩))]) ⟨rfl, rfl, rfl, rfl, rfl, trivial⟩
    refine nrm ?_
    refine wp_seq ?_
    refine wp_region_lit ?_
    refine seq_op0 haq13 hsq13 (opT_move (v := va2) rfl rfl) rfl rfl ?_
    rintro u aq14 wq14 hf haq14 hsq14
    obtain rfl := Eq.symm hf
    clear haq13 hsq13 aq13 wq13
    refine seq_op0 haq14 hsq14 (opT_field_addr (g := g1) (b := 0) tf27_0 rfl rfl) rfl rfl ?_
    rintro u aq15 wq15 hf haq15 hsq15
    obtain rfl := Eq.symm hf
    clear haq14 hsq14 aq14 wq14
    refine seq_op haq15 hsq15 rfl (opT_load_blk (g := g1) (off := 0) (E := 27) (l := [.int .i64 p0.1, va0, va1]) (d := [.int .i64 p0.1]) (u := .int .i64 p0.1) ti3 rfl rfl rfl rfl rfl rfl) (perm_front (i := 1) rfl) rfl ?_
    rintro u aq16 wq16 hf haq16 (hsq16 : St I w0 wq16 [Ch.blk g1 [.int .i64 p0.1, va0, va1] 27, Ch.blk g3 [.int .i64 0, .slice none 0 0, .slice none 0 0] 27, Ch.blk g2 [.int .i64 0, .slice none 0 0, .slice none 0 0] 27, F])
    obtain rfl := Eq.symm hf
    clear haq15 hsq15 aq15 wq15
    obtain ⟨x2, e3, hm⟩ := bind_some hm
    refine seq_op0 haq16 hsq16 (opT_index_hd (xs := p1) (i := p0.1) (n := 1) (Hd.of_rd ra2) Try.underlying34 ti3 rfl rfl rfl (getI_in e3)) rfl rfl ?_
    rintro u aq17 wq17 hf haq17 hsq17
    obtain rfl := Eq.symm hf
    clear haq16 hsq16 aq16 wq16
    refine seq_op0 haq17 hsq17 (opT_load_el (S := rInt) (xs := p1) (a := x2) (i := p0.1) (k := 1) (off := 0) (f := fun (x : Int) => x) ra2 e3 Fld.self ti3 rfl rfl rfl rfl rfl) rfl rfl ?_
    rintro u aq18 wq18 hf haq18 hsq18
    obtain rfl := lds_one hf
    clear haq17 hsq17 aq17 wq17
    refine seq_op haq18 hsq18 rfl (opT_lit_cpy (E := 3) (R := rInt) (S := rInt) [(.int .i64 x2, [.int .i64 x2])] [x2] cpy_int (rd_all ⟨rfl, trivial⟩) Try.underlying34 tz3 (by decide) rfl (by decide) (by decide) rfl rfl rfl rfl (us_all ⟨⟨rfl, rfl⟩, trivial⟩)) (List.Perm.refl _) rfl ?_
    rintro v3 aq19 wq19 - haq19 (hsq19 : St I w0 wq19 [Ch.own (rSlice 3 rInt) [v3] ([x2]), Ch.blk g1 [.int .i64 p0.1, va0, va1] 27, Ch.blk g3 [.int .i64 0, .slice none 0 0, .slice none 0 0] 27, Ch.blk g2 [.int .i64 0, .slice none 0 0, .slice none 0 0] 27, F])
    clear haq18 hsq18 aq18 wq18
    refine seq_op0 haq19 hsq19 (opT_assign (v := v3) rfl rfl) rfl rfl ?_
    rintro u aq20 wq20 hf haq20 hsq20
    obtain rfl := Eq.symm hf
    clear haq19 hsq19 aq19 wq19
    refine wpList_nil ?_
    replace haq20 := haq20.pick' (L' := [(1, va2), (2, va3), (3, .pointer (some ⟨g1, 0, none⟩)), (6, .pointer (some ⟨g2, 0, none⟩)), (7, .pointer (some ⟨g3, 0, none⟩)), (8, v3)]) ⟨rfl, rfl, rfl, rfl, rfl, rfl, trivial⟩
    refine nrm ?_
    refine wp_seq ?_
    refine wp_region_lit ?_
    refine seq_op0 haq20 hsq20 (opT_field_addr (g := g1) (b := 0) tf27_0 rfl rfl) rfl rfl ?_
    rintro u aq21 wq21 hf haq21 hsq21
    obtain rfl := Eq.symm hf
    clear haq20 hsq20 aq20 wq20
    refine seq_op haq21 hsq21 rfl (opT_load_blk (g := g1) (off := 0) (E := 27) (l := [.int .i64 p0.1, va0, va1]) (d := [.int .i64 p0.1]) (u := .int .i64 p0.1) ti3 rfl rfl rfl rfl rfl rfl) (perm_front (i := 1) rfl) rfl ?_
    rintro u aq22 wq22 hf haq22 (hsq22 : St I w0 wq22 [Ch.blk g1 [.int .i64 p0.1, va0, va1] 27, Ch.own (rSlice 3 rInt) [v3] ([x2]), Ch.blk g3 [.int .i64 0, .slice none 0 0, .slice none 0 0] 27, Ch.blk g2 [.int .i64 0, .slice none 0 0, .slice none 0 0] 27, F])
    obtain rfl := Eq.symm hf
    clear haq21 hsq21 aq21 wq21
    refine seq_op haq22 hsq22 rfl (opT_lit_cpy (E := 3) (R := rInt) (S := rInt) [(.int .i64 p0.1, [.int .i64 p0.1])] [p0.1] cpy_int (rd_all ⟨rfl, trivial⟩) Try.underlying34 tz3 (by decide) rfl (by decide) (by decide) rfl rfl rfl rfl (us_all ⟨⟨rfl, rfl⟩, trivial⟩)) (List.Perm.refl _) rfl ?_
    rintro v4 aq23 wq23 - haq23 (hsq23 : St I w0 wq23 [Ch.own (rSlice 3 rInt) [v4] ([p0.1]), Ch.blk g1 [.int .i64 p0.1, va0, va1] 27, Ch.own (rSlice 3 rInt) [v3] ([x2]), Ch.blk g3 [.int .i64 0, .slice none 0 0, .slice none 0 0] 27, Ch.blk g2 [.int .i64 0, .slice none 0 0, .slice none 0 0] 27, F])
    clear haq22 hsq22 aq22 wq22
    refine seq_op0 haq23 hsq23 (opT_assign (v := v4) rfl rfl) rfl rfl ?_
    rintro u aq24 wq24 hf haq24 hsq24
    obtain rfl := Eq.symm hf
    clear haq23 hsq23 aq23 wq23
    refine wpList_nil ?_
    replace haq24 := haq24.pick' (L' := [(1, va2), (2, va3), (3, .pointer (some ⟨g1, 0, none⟩)), (6, .pointer (some ⟨g2, 0, none⟩)), (7, .pointer (some ⟨g3, 0, none⟩)), (8, v3), (9, v4)]) ⟨rfl, rfl, rfl, rfl, rfl, rfl, rfl, trivial⟩
    refine nrm ?_
    refine wp_seq ?_
    refine wp_seq ?_
    refine wp_region_lit ?_
    refine seq_op0 haq24 hsq24 (opT_assign (v := .int .i64 0) rfl rfl) rfl rfl ?_
    rintro u aq25 wq25 hf haq25 hsq25
    obtain rfl := Eq.symm hf
    clear haq24 hsq24 aq24 wq24
    refine wpList_nil ?_
    replace haq25 := haq25.pick' (L' := [(1, va2), (2, va3), (3, .pointer (some ⟨g1, 0, none⟩)), (6, .pointer (some ⟨g2, 0, none⟩)), (7, .pointer (some ⟨g3, 0, none⟩)), (8, v3), (9, v4), (10, .int .i64 0)]) ⟨rfl, rfl, rfl, rfl, rfl, rfl, rfl, rfl, trivial⟩
    refine nrm ?_
    obtain ⟨o11, hl3, hc9⟩ := bindL_some hm
    refine wp_cut (fun a w => ∃ s18 : (List Int) × (List Int) × Int × (List Bool) × (List (List Int)), o11 = .brk s18 ∧ ∃ v115 v116 : Value, Agr 107 a [(6, .pointer (some ⟨g2, 0, none⟩)), (7, .pointer (some ⟨g3, 0, none⟩))] ∧ St I w0 w [Ch.own (rSlice 4 rBool) [v115] s18.2.2.2.1, Ch.own (rSlice 34 (rSlice 3 rInt)) [v116] s18.2.2.2.2, Ch.blk g2 [.int .i64 0, .slice none 0 0, .slice none 0 0] 27, Ch.blk g3 [.int .i64 0, v115, v116] 27, F]) ?_ ?_
    · refine wp_block (wp_loopM (R := Int × (List Bool) × (List (List Int))) (S := (List Int) × (List Int) × Int × (List Bool) × (List (List Int))) (fun s17 a w => ∃ v117 v118 v119 v120 : Value, Agr 107 a [(1, va2), (2, va3), (3, .pointer (some ⟨g1, 0, none⟩)), (6, .pointer (some ⟨g2, 0, none⟩)), (7, .pointer (some ⟨g3, 0, none⟩)), (8, v117), (9, v118), (10, .int .i64 s17.2.2.1)] ∧ St I w0 w [Ch.own (rSlice 3 rInt) [v117] s17.1, Ch.own (rSlice 3 rInt) [v118] s17.2.1, Ch.own (rSlice 4 rBool) [v119] s17.2.2.2.1, Ch.own (rSlice 34 (rSlice 3 rInt)) [v120] s17.2.2.2.2, Ch.blk g1 [.int .i64 p0.1, va0, va1] 27, Ch.blk g2 [.int .i64 0, .slice none 0 0, .slice none 0 0] 27, Ch.blk g3 [.int .i64 0, v119, v120] 27, F]) hl3 ?_ ?_)
      · exact ⟨v3, v4, (.slice none 0 0), (.slice none 0 0), haq25.pick' ⟨rfl, rfl, rfl, rfl, rfl, rfl, rfl, rfl, trivial⟩, St.sel (St.nil (St.nil hsq25)) 8 [4, 2, 1, 0, 3, 6, 5, 7] rfl rfl⟩
      · rintro s17 o12 hm hf3 aq592 wq592 ⟨v117, v118, v119, v120, haq592, hsq592⟩
        unfold m_s_l11Number_l0 at hm
        refine wp_seq ?_
        refine wp_seq ?_
        refine wp_region_lit ?_
        refine seq_op0 haq592 hsq592 (opT_move (v := .int .i64 s17.2.2.1) rfl rfl) rfl rfl ?_
        rintro u aq593 wq593 hf haq593 hsq593
        obtain rfl := Eq.symm hf
        clear haq592 hsq592 aq592 wq592
        refine seq_op0 haq593 hsq593 (opT_move (v := v117) rfl rfl) rfl rfl ?_
        rintro u aq594 wq594 hf haq594 hsq594
        obtain rfl := Eq.symm hf
        clear haq593 hsq593 aq593 wq593
        refine seq_op0 haq594 hsq594 (opT_len_hd (v := v117) (n := s17.1.length) (St.hd hsq594 0 rfl).1 Try.underlying34 rfl rfl) rfl rfl ?_
        rintro u aq595 wq595 hf haq595 hsq595
        obtain rfl := Eq.symm hf
        clear haq594 hsq594 aq594 wq594
        refine seq_op0 haq595 hsq595 (opT_cmp (k := .i64) (m := s17.2.2.1) (n := (s17.1.length : Int)) (c := decide (s17.2.2.1 < (s17.1.length : Int))) rfl rfl rfl rfl rfl) rfl rfl ?_
        rintro u aq596 wq596 hf haq596 hsq596
        obtain rfl := Eq.symm hf
        clear haq595 hsq595 aq595 wq595
        refine wpList_nil ?_
        replace haq596 := haq596.pick' (L' := [(1, va2), (2, va3), (3, .pointer (some ⟨g1, 0, none⟩)), (6, .pointer (some ⟨g2, 0, none⟩)), (7, .pointer (some ⟨g3, 0, none⟩)), (8, v117), (9, v118), (10, .int .i64 s17.2.2.1), (35, .bool (decide (s17.2.2.1 < (s17.1.length : Int))))]) ⟨rfl, rfl, rfl, rfl, rfl, rfl, rfl, rfl, rfl, trivial⟩
        refine nrm ?_
        rcases two (decide (s17.2.2.1 < (s17.1.length : Int))) with hb46 | hb46
        · replace hm := ifFe hb46 hm
          refine cnd_false (b := decide (s17.2.2.1 < (s17.1.length : Int))) haq596 rfl rfl hb46 ?_
          refine wp_exit ?_
          refine thenX ?_
          refine thenX ?_
          refine ex_in ?_
          refine nrm ?_
          exact ⟨_, loopBrk hm hf3, ⟨v119, v120, haq596.pick' ⟨rfl, rfl, trivial⟩, St.sel hsq596 8 [2, 3, 5, 6, 7] rfl rfl⟩⟩
        · replace hm := ifTe hb46 hm
          refine cnd_true (b := decide (s17.2.2.1 < (s17.1.length : Int))) haq596 rfl rfl hb46 ?_
          refine wp_skip ?_
          refine nrm ?_
          refine wp_seq ?_
          refine wp_block ?_
          refine wp_seq ?_
          refine wp_region_lit ?_
          refine seq_op haq596 hsq596 rfl (opT_lit0 (E := 3) (R := rInt) Try.underlying34 ti3 rfl) (List.Perm.refl _) rfl ?_
          rintro v121 aq597 wq597 - haq597 (hsq597 : St I w0 wq597 [Ch.own (rSlice 3 rInt) [v121] ([] : List Int), Ch.own (rSlice 3 rInt) [v117] s17.1, Ch.own (rSlice 3 rInt) [v118] s17.2.1, Ch.own (rSlice 4 rBool) [v119] s17.2.2.2.1, Ch.own (rSlice 34 (rSlice 3 rInt)) [v120] s17.2.2.2.2, Ch.blk g1 [.int .i64 p0.1, va0, va1] 27, Ch.blk g2 [.int .i64 0, .slice none 0 0, .slice none 0 0] 27, Ch.blk g3 [.int .i64 0, v119, v120] 27, F])
          clear haq596 hsq596 aq596 wq596
          refine seq_op0 haq597 hsq597 (opT_assign (v := v121) rfl rfl) rfl rfl ?_
          rintro u aq598 wq598 hf haq598 hsq598
          obtain rfl := Eq.symm hf
          clear haq597 hsq597 aq597 wq597
          refine wpList_nil ?_
          replace haq598 := haq598.pick' (L' := [(1, va2), (2, va3), (3, .pointer (some ⟨g1, 0, none⟩)), (6, .pointer (some ⟨g2, 0, none⟩)), (7, .pointer (some ⟨g3, 0, none⟩)), (8, v117), (9, v118), (10, .int .i64 s17.2.2.1), (11, v121)]) ⟨rfl, rfl, rfl, rfl, rfl, rfl, rfl, rfl, rfl, trivial⟩
          refine nrm ?_
          refine wp_seq ?_
          refine wp_seq ?_
          refine wp_region_lit ?_
          refine seq_op0 haq598 hsq598 (opT_assign (v := .int .i64 0) rfl rfl) rfl rfl ?_
          rintro u aq599 wq599 hf haq599 hsq599
          obtain rfl := Eq.symm hf
          clear haq598 hsq598 aq598 wq598
          refine wpList_nil ?_
          replace haq599 := haq599.pick' (L' := [(1, va2), (2, va3), (3, .pointer (some ⟨g1, 0, none⟩)), (6, .pointer (some ⟨g2, 0, none⟩)), (7, .pointer (some ⟨g3, 0, none⟩)), (8, v117), (9, v118), (10, .int .i64 s17.2.2.1), (11, v121), (12, .int .i64 0)]) ⟨rfl, rfl, rfl, rfl, rfl, rfl, rfl, rfl, rfl, rfl, trivial⟩
          refine nrm ?_
          obtain ⟨o15, hl4, hc12⟩ := bindL_some hm
          refine wp_cut (fun a w => ∃ s24 : (List Int) × (List Int) × (List Int) × Int, o15 = .brk s24 ∧ ∃ v151 v152 v153 : Value, Agr 107 a [(1, va2), (2, va3), (3, .pointer (some ⟨g1, 0, none⟩)), (6, .pointer (some ⟨g2, 0, none⟩)), (7, .pointer (some ⟨g3, 0, none⟩)), (8, v151), (9, v152), (10, .int .i64 s17.2.2.1), (11, v153)] ∧ St I w0 w [Ch.own (rSlice 3 rInt) [v151] s24.1, Ch.own (rSlice 3 rInt) [v152] s24.2.1, Ch.own (rSlice 3 rInt) [v153] s24.2.2.1, Ch.blk g1 [.int .i64 p0.1, va0, va1] 27, Ch.blk g2 [.int .i64 0, .slice none 0 0, .slice none 0 0] 27, Ch.blk g3 [.int .i64 0, v119, v120] 27, Ch.own (rSlice 4 rBool) [v119] s17.2.2.2.1, Ch.own (rSlice 34 (rSlice 3 rInt)) [v120] s17.2.2.2.2, F]) ?_ ?_
          · refine wp_block (wp_loopM (R := Int × (List Bool) × (List (List Int))) (S := (List Int) × (List Int) × (List Int) × Int) (fun s23 a w => ∃ v154 v155 v156 : Value, Agr 107 a [(1, va2), (2, va3), (3, .pointer (some ⟨g1, 0, none⟩)), (6, .pointer (some ⟨g2, 0, none⟩)), (7, .pointer (some ⟨g3, 0, none⟩)), (8, v154), (9, v155), (10, .int .i64 s17.2.2.1), (11, v156), (12, .int .i64 s23.2.2.2)] ∧ St I w0 w [Ch.own (rSlice 3 rInt) [v154] s23.1, Ch.own (rSlice 3 rInt) [v155] s23.2.1, Ch.own (rSlice 3 rInt) [v156] s23.2.2.1, Ch.blk g1 [.int .i64 p0.1, va0, va1] 27, Ch.blk g2 [.int .i64 0, .slice none 0 0, .slice none 0 0] 27, Ch.blk g3 [.int .i64 0, v119, v120] 27, Ch.own (rSlice 4 rBool) [v119] s17.2.2.2.1, Ch.own (rSlice 34 (rSlice 3 rInt)) [v120] s17.2.2.2.2, F]) hl4 ?_ ?_)
            · exact ⟨v117, v118, v121, haq599.pick' ⟨rfl, rfl, rfl, rfl, rfl, rfl, rfl, rfl, rfl, rfl, trivial⟩, St.sel hsq599 9 [1, 2, 0, 5, 6, 7, 3, 4, 8] rfl rfl⟩
            · rintro s23 o16 hm hf4 aq776 wq776 ⟨v154, v155, v156, haq776, hsq776⟩
              unfold m_s_l11Number_l1 at hm
              refine wp_seq ?_
              refine wp_seq ?_
              refine wp_region_lit ?_
              refine seq_op0 haq776 hsq776 (opT_move (v := .int .i64 s23.2.2.2) rfl rfl) rfl rfl ?_
              rintro u aq777 wq777 hf haq777 hsq777
              obtain rfl := Eq.symm hf
              clear haq776 hsq776 aq776 wq776
              refine seq_op0 haq777 hsq777 (opT_cmp (k := .i64) (m := s23.2.2.2) (n := 9) (c := decide (s23.2.2.2 < 9)) rfl rfl rfl rfl rfl) rfl rfl ?_
              rintro u aq778 wq778 hf haq778 hsq778
              obtain rfl := Eq.symm hf
              clear haq777 hsq777 aq777 wq777
              refine wpList_nil ?_
              replace haq778 := haq778.pick' (L' := [(1, va2), (2, va3), (3, .pointer (some ⟨g1, 0, none⟩)), (6, .pointer (some ⟨g2, 0, none⟩)), (7, .pointer (some ⟨g3, 0, none⟩)), (8, v154), (9, v155), (10, .int .i64 s17.2.2.1), (11, v156), (12, .int .i64 s23.2.2.2), (40, .bool (decide (s23.2.2.2 < 9)))]) ⟨rfl, rfl, rfl, rfl, rfl, rfl, rfl, rfl, rfl, rfl, rfl, trivial⟩
              refine nrm ?_
              rcases two (decide (s23.2.2.2 < 9)) with hb61 | hb61
              · replace hm := ifFe hb61 hm
                refine cnd_false (b := decide (s23.2.2.2 < 9)) haq778 rfl rfl hb61 ?_
                refine wp_exit ?_
                refine thenX ?_
                refine thenX ?_
                refine ex_in ?_
                refine nrm ?_
                exact ⟨_, loopBrk hm hf4, ⟨v154, v155, v156, haq778.pick' ⟨rfl, rfl, rfl, rfl, rfl, rfl, rfl, rfl, rfl, trivial⟩, St.sel hsq778 9 [0, 1, 2, 3, 4, 5, 6, 7, 8] rfl rfl⟩⟩
              · replace hm := ifTe hb61 hm
                refine cnd_true (b := decide (s23.2.2.2 < 9)) haq778 rfl rfl hb61 ?_
                refine wp_skip ?_
                refine nrm ?_
                refine wp_seq ?_
                refine wp_block ?_
                refine wp_seq ?_
                obtain ⟨x79, e140, hm⟩ := bind_some hm
                have hd1 := (St.hd hsq778 1 rfl).1
                obtain ⟨x80, e141, hm⟩ := bind_some hm
                obtain ⟨x81, e142, hm⟩ := bind_some hm
                refine wp_draw (L := [(1, va2), (2, va3), (3, .pointer (some ⟨g1, 0, none⟩)), (6, .pointer (some ⟨g2, 0, none⟩)), (7, .pointer (some ⟨g3, 0, none⟩)), (8, v154), (9, v155), (10, .int .i64 s17.2.2.1), (11, v156), (12, .int .i64 s23.2.2.2), (40, .bool (decide (s23.2.2.2 < 9)))]) (C := [Ch.own (rSlice 3 rInt) [v154] s23.1, Ch.own (rSlice 3 rInt) [v156] s23.2.2.1, Ch.blk g2 [.int .i64 0, .slice none 0 0, .slice none 0 0] 27, Ch.blk g3 [.int .i64 0, v119, v120] 27, Ch.own (rSlice 4 rBool) [v119] s17.2.2.2.1, Ch.own (rSlice 34 (rSlice 3 rInt)) [v120] s17.2.2.2.2, F]) { ops := [⟨[], [], [], [0], fun | [xo0] => xo0 = .pointer (some ⟨g1, 2, none⟩) | _ => True, [(3, none)]⟩, ⟨[0], [], [], [1], fun | [xo1] => xo1 = va1 | _ => True, [(43, some 0)]⟩, ⟨[], [], [], [2], fun | [xo2] => xo2 = v155 | _ => True, [(9, none)]⟩, ⟨[], [], [], [3], fun | [xo3] => xo3 = .int .i64 s17.2.2.1 | _ => True, [(10, none)]⟩, ⟨[], [], [], [4], fun | [xo4] => xo4 = pt v155 (s17.2.2.1.toNat * 1) | _ => True, [(45, some 2), (46, some 3)]⟩, ⟨[1], [], [], [5], fun | [xo5] => xo5 = .int .i64 x79 | _ => True, [(47, some 4)]⟩, ⟨[], [], [], [6], fun | [xo6] => xo6 = pt va1 (x79.toNat * 1) | _ => True, [(44, some 1), (48, some 5)]⟩, ⟨[], [], [], [7], fun | [xo7] => (rSlice 3 rInt).rd I [xo7] x80 | _ => True, [(49, some 6)]⟩, ⟨[], [], [], [8], fun | [xo8] => xo8 = .int .i64 s23.2.2.2 | _ => True, [(12, none)]⟩, ⟨[], [], [], [9, 7], fun | [xo9, xo7] => xo9 = pt xo7 (s23.2.2.2.toNat * 1) | _ => True, [(50, some 7), (51, some 8)]⟩, ⟨[], [], [], [10], fun | [xo10] => xo10 = .int .i64 x81 | _ => True, [(52, some 9)]⟩, ⟨[], [], [], [11], fun | [xo11] => xo11 = .int .i64 x81 | _ => True, [(53, some 10)]⟩], res := [⟨[], fun _ => Ch.blk g1 [.int .i64 p0.1, va0, va1] 27⟩, ⟨[], fun _ => Ch.own (rSlice 3 rInt) [v155] s23.2.1⟩], base := [0, 1], pre := [[], [0], [], [], [2, 3], [2, 3, 4], [0, 1, 2, 3, 4, 5], [0, 1, 2, 3, 4, 5, 6], [], [0, 1, 2, 3, 4, 5, 6, 7, 8], [0, 1, 2, 3, 4, 5, 6, 7, 8, 9], [0, 1, 2, 3, 4, 5, 6, 7, 8, 9, 10]], fin := [(1, none), (2, none), (3, none), (6, none), (7, none), (8, none), (9, none), (10, none), (11, none), (12, none), (13, some 11)], left := [0, 1] } (by kernel_rfl) haq778 hsq778 (perm_sel [3, 1, 0, 2, 4, 5, 6, 7, 8] (m := 9) rfl rfl) (by kernel_rfl) (by kernel_rfl) ?_ ?_
                · exact ⟨Plan.goal_run fun vs hf => ⟨wants_none rfl, OpT.conv (OpT.evs (ev' := evL [(3, .pointer (some ⟨g1, 0, none⟩))]) (opT_field_addr (g := g1) (b := 0) tf27_2 rfl rfl) rfl [.tmp 3] rfl ⟨rfl, trivial⟩) rfl (fun _ h => Eq.trans h rfl) (fun _ => rfl)⟩, Plan.goal_run fun vs hf => ⟨wants_none rfl, OpT.conv (OpT.evs (ev' := evL [(43, .pointer (some ⟨g1, 2, none⟩))]) (opT_load_blk (g := g1) (off := 2) (E := 27) (l := [.int .i64 p0.1, va0, va1]) (d := [va1]) (u := va1) ti23 rfl rfl rfl rfl rfl rfl) rfl [.tmp 43] rfl ⟨(hf 0 (mb rfl)), trivial⟩) rfl (fun _ h => Eq.trans h rfl) (fun _ => rfl)⟩, Plan.goal_run fun vs hf => ⟨wants_none rfl, OpT.conv (OpT.evs (ev' := evL [(9, v155)]) (opT_move (v := v155) rfl rfl) rfl [.tmp 9] rfl ⟨rfl, trivial⟩) rfl (fun _ h => Eq.trans h rfl) (fun _ => rfl)⟩, Plan.goal_run fun vs hf => ⟨wants_none rfl, OpT.conv (OpT.evs (ev' := evL [(10, .int .i64 s17.2.2.1)]) (opT_move (v := .int .i64 s17.2.2.1) rfl rfl) rfl [.tmp 10] rfl ⟨rfl, trivial⟩) rfl (fun _ h => Eq.trans h rfl) (fun _ => rfl)⟩, Plan.goal_run fun vs hf => ⟨wants_none rfl, OpT.conv (OpT.evs (ev' := evL [(45, v155), (46, .int .i64 s17.2.2.1)]) (opT_index_hd (xs := s23.2.1) (i := s17.2.2.1) (n := 1) hd1 Try.underlying34 ti3 rfl rfl rfl (getI_in e140)) rfl [.tmp 45, .tmp 46] rfl ⟨(hf 2 (mb rfl)), (hf 3 (mb rfl)), trivial⟩) rfl (fun _ h => Eq.trans h rfl) (fun _ => rfl)⟩, Plan.goal_run fun vs hf => ⟨wants_none rfl, OpT.conv (OpT.evs (ev' := evL [(47, pt v155 (s17.2.2.1.toNat * 1))]) (opT_load_own (E := 3) (R := rInt) (S := rInt) (xs := s23.2.1) (a := x79) (i := s17.2.2.1) (k := 1) (off := 0) (f := fun (x : Int) => x) sh_int e140 Fld.self ti3 rfl rfl rfl rfl rfl) rfl [.tmp 47] rfl ⟨(hf 4 (mb rfl)), trivial⟩) rfl (fun _ h => lds_one h) (fun _ => rfl)⟩, Plan.goal_run fun vs hf => ⟨wants_none rfl, OpT.conv (OpT.evs (ev' := evL [(44, va1), (48, .int .i64 x79)]) (opT_index_hd (xs := p0.2.2) (i := x79) (n := 1) (Hd.of_rd ra1) Try.underlying23 ti34 rfl rfl rfl (getI_in e141)) rfl [.tmp 44, .tmp 48] rfl ⟨(hf 1 (mb rfl)), (hf 5 (mb rfl)), trivial⟩) rfl (fun _ h => Eq.trans h rfl) (fun _ => rfl)⟩, Plan.goal_run fun vs hf => ⟨wants_none rfl, OpT.conv (OpT.evs (ev' := evL [(49, pt va1 (x79.toNat * 1))]) (opT_load_el (S := rSlice 3 rInt) (xs := p0.2.2) (a := x80) (i := x79) (k := 1) (off := 0) (f := fun (x : List Int) => x) ra1 e141 Fld.self ti34 rfl rfl rfl rfl rfl) rfl [.tmp 49] rfl ⟨(hf 6 (mb rfl)), trivial⟩) rfl (fun _ h => lds_sl h) (fun _ => rfl)⟩, Plan.goal_run fun vs hf => ⟨wants_none rfl, OpT.conv (OpT.evs (ev' := evL [(12, .int .i64 s23.2.2.2)]) (opT_move (v := .int .i64 s23.2.2.2) rfl rfl) rfl [.tmp 12] rfl ⟨rfl, trivial⟩) rfl (fun _ h => Eq.trans h rfl) (fun _ => rfl)⟩, Plan.goal_run fun vs hf => ⟨wants_none rfl, OpT.conv (OpT.evs (ev' := evL [(50, (vs 7)), (51, .int .i64 s23.2.2.2)]) (opT_index_hd (xs := x80) (i := s23.2.2.2) (n := 1) (Hd.of_rd (show (rSlice 3 rInt).rd I [(vs 7)] x80 from (hf 7 (mb rfl)))) Try.underlying34 ti3 rfl rfl rfl (getI_in e142)) rfl [.tmp 50, .tmp 51] rfl ⟨rfl, (hf 8 (mb rfl)), trivial⟩) rfl (fun _ h => Eq.trans h rfl) (fun _ => rfl)⟩, Plan.goal_run fun vs hf => ⟨wants_none rfl, OpT.conv (OpT.evs (ev' := evL [(52, pt (vs 7) (s23.2.2.2.toNat * 1))]) (opT_load_el (S := rInt) (xs := x80) (a := x81) (i := s23.2.2.2) (k := 1) (off := 0) (f := fun (x : Int) => x) (show (rSlice 3 rInt).rd I [(vs 7)] x80 from (hf 7 (mb rfl))) e142 Fld.self ti3 rfl rfl rfl rfl rfl) rfl [.tmp 52] rfl ⟨(hf 9 (mb rfl)), trivial⟩) rfl (fun _ h => lds_one h) (fun _ => rfl)⟩, Plan.goal_run fun vs hf => ⟨wants_none rfl, OpT.conv (OpT.evs (ev' := evL [(53, .int .i64 x81)]) (opT_assign (v := .int .i64 x81) rfl rfl) rfl [.tmp 53] rfl ⟨(hf 10 (mb rfl)), trivial⟩) rfl (fun _ h => Eq.trans h rfl) (fun _ => rfl)⟩, trivial⟩
                intro vs aq779 wq779 hf haq779 hsq779
                clear haq778 hsq778
                replace haq779 := haq779.pick' (L' := [(1, va2), (2, va3), (3, .pointer (some ⟨g1, 0, none⟩)), (6, .pointer (some ⟨g2, 0, none⟩)), (7, .pointer (some ⟨g3, 0, none⟩)), (8, v154), (9, v155), (10, .int .i64 s17.2.2.1), (11, v156), (12, .int .i64 s23.2.2.2), (13, .int .i64 x81)]) ⟨rfl, rfl, rfl, rfl, rfl, rfl, rfl, rfl, rfl, rfl, (congrArg some (show _ = _ from (hf 11 (Nat.le_of_ble_eq_true rfl)))), trivial⟩
                replace hsq779 : St I w0 wq779 [Ch.blk g1 [.int .i64 p0.1, va0, va1] 27, Ch.own (rSlice 3 rInt) [v155] s23.2.1, Ch.own (rSlice 3 rInt) [v154] s23.1, Ch.own (rSlice 3 rInt) [v156] s23.2.2.1, Ch.blk g2 [.int .i64 0, .slice none 0 0, .slice none 0 0] 27, Ch.blk g3 [.int .i64 0, v119, v120] 27, Ch.own (rSlice 4 rBool) [v119] s17.2.2.2.1, Ch.own (rSlice 34 (rSlice 3 rInt)) [v120] s17.2.2.2.2, F] := hsq779
                clear hf vs
                refine nrm ?_
                refine wp_seq ?_
                refine wp_region_lit ?_
                refine seq_op0 haq779 hsq779 (opT_assign (v := .int .i64 (-1)) rfl rfl) rfl rfl ?_
                rintro u aq780 wq780 hf haq780 hsq780
                obtain rfl := Eq.symm hf
                clear haq779 hsq779 aq779 wq779
                refine wpList_nil ?_
                replace haq780 := haq780.pick' (L' := [(1, va2), (2, va3), (3, .pointer (some ⟨g1, 0, none⟩)), (6, .pointer (some ⟨g2, 0, none⟩)), (7, .pointer (some ⟨g3, 0, none⟩)), (8, v154), (9, v155), (10, .int .i64 s17.2.2.1), (11, v156), (12, .int .i64 s23.2.2.2), (13, .int .i64 x81), (14, .int .i64 (-1))]) ⟨rfl, rfl, rfl, rfl, rfl, rfl, rfl, rfl, rfl, rfl, rfl, rfl, trivial⟩
                refine nrm ?_
                obtain ⟨s25, hj9, hm⟩ := bind_some hm
                refine wp_seq_cut (fun a w => ∃ v162 v163 : Value, Agr 107 a [(1, va2), (2, va3), (3, .pointer (some ⟨g1, 0, none⟩)), (6, .pointer (some ⟨g2, 0, none⟩)), (7, .pointer (some ⟨g3, 0, none⟩)), (8, v162), (9, v163), (10, .int .i64 s17.2.2.1), (11, v156), (12, .int .i64 s23.2.2.2), (14, .int .i64 s25.2.2)] ∧ St I w0 w [Ch.own (rSlice 3 rInt) [v162] s25.1, Ch.own (rSlice 3 rInt) [v163] s25.2.1, Ch.blk g1 [.int .i64 p0.1, va0, va1] 27, Ch.blk g2 [.int .i64 0, .slice none 0 0, .slice none 0 0] 27, Ch.blk g3 [.int .i64 0, v119, v120] 27, Ch.own (rSlice 4 rBool) [v119] s17.2.2.2.1, Ch.own (rSlice 34 (rSlice 3 rInt)) [v120] s17.2.2.2.2, Ch.own (rSlice 3 rInt) [v156] s23.2.2.1, F]) ?_ ?_
                · replace hm := hj9
                  refine wp_seq ?_
                  refine wp_region_lit ?_
                  refine seq_op0 haq780 hsq780 (opT_move (v := .int .i64 x81) rfl rfl) rfl rfl ?_
                  rintro u aq819 wq819 hf haq819 hsq819
                  obtain rfl := Eq.symm hf
                  clear haq780 hsq780 aq780 wq780
                  refine seq_op0 haq819 hsq819 (opT_cmp (k := .i64) (m := x81) (n := 0) (c := decide (x81 ≥ 0)) rfl rfl rfl rfl rfl) rfl rfl ?_
                  rintro u aq820 wq820 hf haq820 hsq820
                  obtain rfl := Eq.symm hf
                  clear haq819 hsq819 aq819 wq819
                  refine seq_op0 haq820 hsq820 (opT_move (v := .bool (decide (x81 ≥ 0))) rfl rfl) rfl rfl ?_
                  rintro u aq821 wq821 hf haq821 hsq821
                  obtain rfl := Eq.symm hf
                  clear haq820 hsq820 aq820 wq820
                  rcases two (decide (x81 ≥ 0)) with hb65 | hb65
                  · replace hm := ifFe hb65 hm
                    refine seq_skip (g := 2) (d := 56) (want := true) (b := decide (x81 ≥ 0)) haq821 hsq821 rfl rfl rfl hb65 rfl ?_
                    intro aq822 haq822
                    refine seq_skip (g := 2) (d := 56) (want := true) (b := decide (x81 ≥ 0)) haq822 hsq821 rfl rfl rfl hb65 rfl ?_
                    intro aq823 haq823
                    refine seq_skip (g := 2) (d := 56) (want := true) (b := decide (x81 ≥ 0)) haq823 hsq821 rfl rfl rfl hb65 rfl ?_
                    intro aq824 haq824
                    refine seq_skip (g := 2) (d := 56) (want := true) (b := decide (x81 ≥ 0)) haq824 hsq821 rfl rfl rfl hb65 rfl ?_
                    intro aq825 haq825
                    refine seq_op0 haq825 hsq821 (opT_pick (b := decide (x81 ≥ 0)) (v := .bool false) rfl rfl (ifF hb65)) rfl rfl ?_
                    rintro u aq826 wq826 hf haq826 hsq826
                    obtain rfl := Eq.symm hf
                    clear haq825 hsq821 aq825 wq821
                    refine wpList_nil ?_
                    replace haq826 := haq826.pick' (L' := [(1, va2), (2, va3), (3, .pointer (some ⟨g1, 0, none⟩)), (6, .pointer (some ⟨g2, 0, none⟩)), (7, .pointer (some ⟨g3, 0, none⟩)), (8, v154), (9, v155), (10, .int .i64 s17.2.2.1), (11, v156), (12, .int .i64 s23.2.2.2), (13, .int .i64 x81), (14, .int .i64 (-1)), (61, .bool false)]) ⟨rfl, rfl, rfl, rfl, rfl, rfl, rfl, rfl, rfl, rfl, rfl, rfl, rfl, trivial⟩
                    refine nrm ?_
                    refine cnd_false (b := false) haq826 rfl rfl rfl ?_
                    refine wp_skip ?_
                    refine nrm ?_
                    obtain rfl := Option.some.inj hm
                    exact ⟨v154, v155, haq826.pick' ⟨rfl, rfl, rfl, rfl, rfl, rfl, rfl, rfl, rfl, rfl, rfl, trivial⟩, St.sel hsq826 9 [2, 1, 0, 4, 5, 6, 7, 3, 8] rfl rfl⟩
                  · replace hm := ifTe hb65 hm
                    refine seq_op_g0 (g := 2) (d := 56) (want := true) (b := decide (x81 ≥ 0)) haq821 hsq821 rfl rfl rfl hb65 (opT_move (v := va3) rfl rfl) rfl ?_
                    rintro u aq827 wq827 hf haq827 hsq827
                    obtain rfl := Eq.symm hf
                    clear haq821 hsq821 aq821 wq821
                    refine seq_op_g0 (g := 2) (d := 56) (want := true) (b := decide (x81 ≥ 0)) haq827 hsq827 rfl rfl rfl hb65 (opT_move (v := .int .i64 x81) rfl rfl) rfl ?_
                    rintro u aq828 wq828 hf haq828 hsq828
                    obtain rfl := Eq.symm hf
                    clear haq827 hsq827 aq827 wq827
                    obtain ⟨x85, e149, hm⟩ := bind_some hm
                    refine seq_op_g0 (g := 2) (d := 56) (want := true) (b := decide (x81 ≥ 0)) haq828 hsq828 rfl rfl rfl hb65 (opT_index_hd (xs := p2) (i := x81) (n := 1) (Hd.of_rd ra3) Try.underlying22 ti4 rfl rfl rfl (getI_in e149)) rfl ?_
                    rintro u aq829 wq829 hf haq829 hsq829
                    obtain rfl := Eq.symm hf
                    clear haq828 hsq828 aq828 wq828
                    refine seq_op_g0 (g := 2) (d := 56) (want := true) (b := decide (x81 ≥ 0)) haq829 hsq829 rfl rfl rfl hb65 (opT_load_el (S := rBool) (xs := p2) (a := x85) (i := x81) (k := 1) (off := 0) (f := fun (x : Bool) => x) ra3 e149 Fld.self ti4 rfl rfl rfl rfl rfl) rfl ?_
                    rintro u aq830 wq830 hf haq830 hsq830
                    obtain rfl := lds_one hf
                    clear haq829 hsq829 aq829 wq829
                    refine seq_op0 haq830 hsq830 (opT_pick (b := decide (x81 ≥ 0)) (v := .bool x85) rfl rfl (ifT hb65)) rfl rfl ?_
                    rintro u aq831 wq831 hf haq831 hsq831
                    obtain rfl := Eq.symm hf
                    clear haq830 hsq830 aq830 wq830
                    refine wpList_nil ?_
                    replace haq831 := haq831.pick' (L' := [(1, va2), (2, va3), (3, .pointer (some ⟨g1, 0, none⟩)), (6, .pointer (some ⟨g2, 0, none⟩)), (7, .pointer (some ⟨g3, 0, none⟩)), (8, v154), (9, v155), (10, .int .i64 s17.2.2.1), (11, v156), (12, .int .i64 s23.2.2.2), (13, .int .i64 x81), (14, .int .i64 (-1)), (61, .bool x85)]) ⟨rfl, rfl, rfl, rfl, rfl, rfl, rfl, rfl, rfl, rfl, rfl, rfl, rfl, trivial⟩
                    refine nrm ?_
                    rcases two (x85) with hb66 | hb66
                    · replace hm := ifFe hb66 hm
                      refine cnd_false (b := x85) haq831 rfl rfl hb66 ?_
                      refine wp_skip ?_
                      refine nrm ?_
                      obtain rfl := Option.some.inj hm
                      exact ⟨v154, v155, haq831.pick' ⟨rfl, rfl, rfl, rfl, rfl, rfl, rfl, rfl, rfl, rfl, rfl, trivial⟩, St.sel hsq831 9 [2, 1, 0, 4, 5, 6, 7, 3, 8] rfl rfl⟩
                    · replace hm := ifTe hb66 hm
                      refine cnd_true (b := x85) haq831 rfl rfl hb66 ?_
                      refine wp_seq ?_
                      refine wp_region_lit ?_
                      refine seq_op0 haq831 hsq831 (opT_move (v := v154) rfl rfl) rfl rfl ?_
                      rintro u aq832 wq832 hf haq832 hsq832
                      obtain rfl := Eq.symm hf
                      clear haq831 hsq831 aq831 wq831
                      refine seq_op0 haq832 hsq832 (opT_move (v := va2) rfl rfl) rfl rfl ?_
                      rintro u aq833 wq833 hf haq833 hsq833
                      obtain rfl := Eq.symm hf
                      clear haq832 hsq832 aq832 wq832
                      refine seq_op0 haq833 hsq833 (opT_move (v := .int .i64 x81) rfl rfl) rfl rfl ?_
                      rintro u aq834 wq834 hf haq834 hsq834
                      obtain rfl := Eq.symm hf
                      clear haq833 hsq833 aq833 wq833
                      obtain ⟨x86, e150, hm⟩ := bind_some hm
                      refine seq_op0 haq834 hsq834 (opT_index_hd (xs := p1) (i := x81) (n := 1) (Hd.of_rd ra2) Try.underlying34 ti3 rfl rfl rfl (getI_in e150)) rfl rfl ?_
                      rintro u aq835 wq835 hf haq835 hsq835
                      obtain rfl := Eq.symm hf
                      clear haq834 hsq834 aq834 wq834
                      refine seq_op0 haq835 hsq835 (opT_load_el (S := rInt) (xs := p1) (a := x86) (i := x81) (k := 1) (off := 0) (f := fun (x : Int) => x) ra2 e150 Fld.self ti3 rfl rfl rfl rfl rfl) rfl rfl ?_
                      rintro u aq836 wq836 hf haq836 hsq836
                      obtain rfl := lds_one hf
                      clear haq835 hsq835 aq835 wq835
                      obtain ⟨r28, e151, hm⟩ := bind_some hm
                      refine seq_op haq836 hsq836 rfl (OpT.lend (ls := [Ch.own (rSlice 3 rInt) [v154] s23.1]) (gv := fun v => []) (fun _ => trivial) fun J hJ hl hb => opT_call (args := #[v154, .int .i64 x86]) (first := #[]) (captured := #[]) en94 rfl rfl rfl (c_s_l11Find s23.1 x86 _ e151 v154 (hl _ _ _ (List.Mem.head _)))) (perm_front (i := 2) rfl) rfl ?_
                      rintro u aq837 wq837 hf haq837 (hsq837 : St I w0 wq837 [Ch.own (rSlice 3 rInt) [v154] s23.1, Ch.blk g1 [.int .i64 p0.1, va0, va1] 27, Ch.own (rSlice 3 rInt) [v155] s23.2.1, Ch.own (rSlice 3 rInt) [v156] s23.2.2.1, Ch.blk g2 [.int .i64 0, .slice none 0 0, .slice none 0 0] 27, Ch.blk g3 [.int .i64 0, v119, v120] 27, Ch.own (rSlice 4 rBool) [v119] s17.2.2.2.1, Ch.own (rSlice 34 (rSlice 3 rInt)) [v120] s17.2.2.2.2, F])
                      obtain rfl := Eq.symm hf
                      clear haq836 hsq836 aq836 wq836
                      refine seq_op0 haq837 hsq837 (opT_assign (v := .int .i64 r28) rfl rfl) rfl rfl ?_
                      rintro u aq838 wq838 hf haq838 hsq838
                      obtain rfl := Eq.symm hf
                      clear haq837 hsq837 aq837 wq837
                      refine wpList_nil ?_
                      replace haq838 := haq838.pick' (L' := [(1, va2), (2, va3), (3, .pointer (some ⟨g1, 0, none⟩)), (6, .pointer (some ⟨g2, 0, none⟩)), (7, .pointer (some ⟨g3, 0, none⟩)), (8, v154), (9, v155), (10, .int .i64 s17.2.2.1), (11, v156), (12, .int .i64 s23.2.2.2), (13, .int .i64 x81), (14, .int .i64 r28)]) ⟨rfl, rfl, rfl, rfl, rfl, rfl, rfl, rfl, rfl, rfl, rfl, rfl, trivial⟩
                      refine nrm ?_
                      refine wp_seq ?_
                      refine wp_region_lit ?_
                      refine seq_op0 haq838 hsq838 (opT_move (v := .int .i64 r28) rfl rfl) rfl rfl ?_
                      rintro u aq839 wq839 hf haq839 hsq839
                      obtain rfl := Eq.symm hf
                      clear haq838 hsq838 aq838 wq838
                      refine seq_op0 haq839 hsq839 (opT_cmp (k := .i64) (m := r28) (n := 0) (c := decide (r28 < 0)) rfl rfl rfl rfl rfl) rfl rfl ?_
                      rintro u aq840 wq840 hf haq840 hsq840
                      obtain rfl := Eq.symm hf
                      clear haq839 hsq839 aq839 wq839
                      refine wpList_nil ?_
                      replace haq840 := haq840.pick' (L' := [(1, va2), (2, va3), (3, .pointer (some ⟨g1, 0, none⟩)), (6, .pointer (some ⟨g2, 0, none⟩)), (7, .pointer (some ⟨g3, 0, none⟩)), (8, v154), (9, v155), (10, .int .i64 s17.2.2.1), (11, v156), (12, .int .i64 s23.2.2.2), (13, .int .i64 x81), (14, .int .i64 r28), (69, .bool (decide (r28 < 0)))]) ⟨rfl, rfl, rfl, rfl, rfl, rfl, rfl, rfl, rfl, rfl, rfl, rfl, rfl, trivial⟩
                      refine nrm ?_
                      rcases two (decide (r28 < 0)) with hb67 | hb67
                      · replace hm := ifFe hb67 hm
                        refine cnd_false (b := decide (r28 < 0)) haq840 rfl rfl hb67 ?_
                        refine wp_skip ?_
                        refine nrm ?_
                        obtain rfl := Option.some.inj hm
                        exact ⟨v154, v155, haq840.pick' ⟨rfl, rfl, rfl, rfl, rfl, rfl, rfl, rfl, rfl, rfl, rfl, trivial⟩, St.sel hsq840 9 [0, 2, 1, 4, 5, 6, 7, 3, 8] rfl rfl⟩
                      · replace hm := ifTe hb67 hm
                        refine cnd_true (b := decide (r28 < 0)) haq840 rfl rfl hb67 ?_
                        refine wp_seq ?_
                        refine wp_region_lit ?_
                        refine seq_op0 haq840 hsq840 (opT_move (v := v154) rfl rfl) rfl rfl ?_
                        rintro u aq841 wq841 hf haq841 hsq841
                        obtain rfl := Eq.symm hf
                        clear haq840 hsq840 aq840 wq840
                        refine seq_op0 haq841 hsq841 (opT_len_hd (v := v154) (n := s23.1.length) (St.hd hsq841 0 rfl).1 Try.underlying34 rfl rfl) rfl rfl ?_
                        rintro u aq842 wq842 hf haq842 hsq842
                        obtain rfl := Eq.symm hf
                        clear haq841 hsq841 aq841 wq841
                        refine seq_op0 haq842 hsq842 (opT_assign (v := .int .i64 (s23.1.length : Int)) rfl rfl) rfl rfl ?_
                        rintro u aq843 wq843 hf haq843 hsq843
                        obtain rfl := Eq.symm hf
                        clear haq842 hsq842 aq842 wq842
                        refine wpList_nil ?_
                        replace haq843 := haq843.pick' (L' := [(1, va2), (2, va3), (3, .pointer (some ⟨g1, 0, none⟩)), (6, .pointer (some ⟨g2, 0, none⟩)), (7, .pointer (some ⟨g3, 0, none⟩)), (8, v154), (9, v155), (10, .int .i64 s17.2.2.1), (11, v156), (12, .int .i64 s23.2.2.2), (13, .int .i64 x81), (14, .int .i64 (s23.1.length : Int))]) ⟨rfl, rfl, rfl, rfl, rfl, rfl, rfl, rfl, rfl, rfl, rfl, rfl, trivial⟩
                        refine nrm ?_
                        refine wp_seq ?_
                        refine wp_region_lit ?_
                        refine seq_op0 haq843 hsq843 (opT_move (v := v154) rfl rfl) rfl rfl ?_
                        rintro u aq844 wq844 hf haq844 hsq844
                        obtain rfl := Eq.symm hf
                        clear haq843 hsq843 aq843 wq843
                        refine seq_op0 haq844 hsq844 (opT_move (v := va2) rfl rfl) rfl rfl ?_
                        rintro u aq845 wq845 hf haq845 hsq845
                        obtain rfl := Eq.symm hf
                        clear haq844 hsq844 aq844 wq844
                        refine seq_op0 haq845 hsq845 (opT_move (v := .int .i64 x81) rfl rfl) rfl rfl ?_
                        rintro u aq846 wq846 hf haq846 hsq846
                        obtain rfl := Eq.symm hf
                        clear haq845 hsq845 aq845 wq845
                        obtain ⟨x87, e152, hm⟩ := bind_some hm
                        refine seq_op0 haq846 hsq846 (opT_index_hd (xs := p1) (i := x81) (n := 1) (Hd.of_rd ra2) Try.underlying34 ti3 rfl rfl rfl (getI_in e152)) rfl rfl ?_
                        rintro u aq847 wq847 hf haq847 hsq847
                        obtain rfl := Eq.symm hf
                        clear haq846 hsq846 aq846 wq846
                        refine seq_op0 haq847 hsq847 (opT_load_el (S := rInt) (xs := p1) (a := x87) (i := x81) (k := 1) (off := 0) (f := fun (x : Int) => x) ra2 e152 Fld.self ti3 rfl rfl rfl rfl rfl) rfl rfl ?_
                        rintro u aq848 wq848 hf haq848 hsq848
                        obtain rfl := lds_one hf
                        clear haq847 hsq847 aq847 wq847
                        refine seq_op haq848 hsq848 rfl (opT_lit_cpy (E := 3) (R := rInt) (S := rInt) [(.int .i64 x87, [.int .i64 x87])] [x87] cpy_int (rd_all ⟨rfl, trivial⟩) Try.underlying34 tz3 (by decide) rfl (by decide) (by decide) rfl rfl rfl rfl (us_all ⟨⟨rfl, rfl⟩, trivial⟩)) (List.Perm.refl _) rfl ?_
                        rintro v164 aq849 wq849 - haq849 (hsq849 : St I w0 wq849 [Ch.own (rSlice 3 rInt) [v164] ([x87]), Ch.own (rSlice 3 rInt) [v154] s23.1, Ch.blk g1 [.int .i64 p0.1, va0, va1] 27, Ch.own (rSlice 3 rInt) [v155] s23.2.1, Ch.own (rSlice 3 rInt) [v156] s23.2.2.1, Ch.blk g2 [.int .i64 0, .slice none 0 0, .slice none 0 0] 27, Ch.blk g3 [.int .i64 0, v119, v120] 27, Ch.own (rSlice 4 rBool) [v119] s17.2.2.2.1, Ch.own (rSlice 34 (rSlice 3 rInt)) [v120] s17.2.2.2.2, F])
                        clear haq848 hsq848 aq848 wq848
                        obtain ⟨z47, e153, hm⟩ := bind_some hm
                        refine seq_op haq849 hsq849 rfl (opT_app (E := 3) (R := rInt) (s := v154) (u := v164) e153 Try.underlying34 tz3 rfl (by decide) rfl (by decide) rfl rfl rfl) (perm_sel [1, 0, 2, 3, 4, 5, 6, 7, 8, 9] (m := 10) rfl rfl) rfl ?_
                        rintro v165 aq850 wq850 - haq850 (hsq850 : St I w0 wq850 [Ch.own (rSlice 3 rInt) [v165] z47, Ch.blk g1 [.int .i64 p0.1, va0, va1] 27, Ch.own (rSlice 3 rInt) [v155] s23.2.1, Ch.own (rSlice 3 rInt) [v156] s23.2.2.1, Ch.blk g2 [.int .i64 0, .slice none 0 0, .slice none 0 0] 27, Ch.blk g3 [.int .i64 0, v119, v120] 27, Ch.own (rSlice 4 rBool) [v119] s17.2.2.2.1, Ch.own (rSlice 34 (rSlice 3 rInt)) [v120] s17.2.2.2.2, F])
                        clear haq849 hsq849 aq849 wq849
                        refine seq_op0 haq850 hsq850 (opT_assign (v := v165) rfl rfl) rfl rfl ?_
                        rintro u aq851 wq851 hf haq851 hsq851
                        obtain rfl := Eq.symm hf
                        clear haq850 hsq850 aq850 wq850
                        refine wpList_nil ?_
                        replace haq851 := haq851.pick' (L' := [(1, va2), (2, va3), (3, .pointer (some ⟨g1, 0, none⟩)), (6, .pointer (some ⟨g2, 0, none⟩)), (7, .pointer (some ⟨g3, 0, none⟩)), (8, v165), (9, v155), (10, .int .i64 s17.2.2.1), (11, v156), (12, .int .i64 s23.2.2.2), (13, .int .i64 x81), (14, .int .i64 (s23.1.length : Int))]) ⟨rfl, rfl, rfl, rfl, rfl, rfl, rfl, rfl, rfl, rfl, rfl, rfl, trivial⟩
                        refine nrm ?_
                        refine wp_region_lit ?_
                        refine seq_op0 haq851 hsq851 (opT_move (v := v155) rfl rfl) rfl rfl ?_
                        rintro u aq852 wq852 hf haq852 hsq852
                        obtain rfl := Eq.symm hf
                        clear haq851 hsq851 aq851 wq851
                        refine seq_op0 haq852 hsq852 (opT_move (v := .int .i64 x81) rfl rfl) rfl rfl ?_
                        rintro u aq853 wq853 hf haq853 hsq853
                        obtain rfl := Eq.symm hf
                        clear haq852 hsq852 aq852 wq852
                        refine seq_op haq853 hsq853 rfl (opT_lit_cpy (E := 3) (R := rInt) (S := rInt) [(.int .i64 x81, [.int .i64 x81])] [x81] cpy_int (rd_all ⟨rfl, trivial⟩) Try.underlying34 tz3 (by decide) rfl (by decide) (by decide) rfl rfl rfl rfl (us_all ⟨⟨rfl, rfl⟩, trivial⟩)) (List.Perm.refl _) rfl ?_
                        rintro v166 aq854 wq854 - haq854 (hsq854 : St I w0 wq854 [Ch.own (rSlice 3 rInt) [v166] ([x81]), Ch.own (rSlice 3 rInt) [v165] z47, Ch.blk g1 [.int .i64 p0.1, va0, va1] 27, Ch.own (rSlice 3 rInt) [v155] s23.2.1, Ch.own (rSlice 3 rInt) [v156] s23.2.2.1, Ch.blk g2 [.int .i64 0, .slice none 0 0, .slice none 0 0] 27, Ch.blk g3 [.int .i64 0, v119, v120] 27, Ch.own (rSlice 4 rBool) [v119] s17.2.2.2.1, Ch.own (rSlice 34 (rSlice 3 rInt)) [v120] s17.2.2.2.2, F])
                        clear haq853 hsq853 aq853 wq853
                        obtain ⟨z48, e154, hm⟩ := bind_some hm
                        refine seq_op haq854 hsq854 rfl (opT_app (E := 3) (R := rInt) (s := v155) (u := v166) e154 Try.underlying34 tz3 rfl (by decide) rfl (by decide) rfl rfl rfl) (perm_sel [3, 0, 1, 2, 4, 5, 6, 7, 8, 9] (m := 10) rfl rfl) rfl ?_
                        rintro v167 aq855 wq855 - haq855 (hsq855 : St I w0 wq855 [Ch.own (rSlice 3 rInt) [v167] z48, Ch.own (rSlice 3 rInt) [v165] z47, Ch.blk g1 [.int .i64 p0.1, va0, va1] 27, Ch.own (rSlice 3 rInt) [v156] s23.2.2.1, Ch.blk g2 [.int .i64 0, .slice none 0 0, .slice none 0 0] 27, Ch.blk g3 [.int .i64 0, v119, v120] 27, Ch.own (rSlice 4 rBool) [v119] s17.2.2.2.1, Ch.own (rSlice 34 (rSlice 3 rInt)) [v120] s17.2.2.2.2, F])
                        clear haq854 hsq854 aq854 wq854
                        refine seq_op0 haq855 hsq855 (opT_assign (v := v167) rfl rfl) rfl rfl ?_
                        rintro u aq856 wq856 hf haq856 hsq856
                        obtain rfl := Eq.symm hf
                        clear haq855 hsq855 aq855 wq855
                        refine wpList_nil ?_
                        replace haq856 := haq856.pick' (L' := [(1, va2), (2, va3), (3, .pointer (some ⟨g1, 0, none⟩)), (6, .pointer (some ⟨g2, 0, none⟩)), (7, .pointer (some ⟨g3, 0, none⟩)), (8, v165), (9, v167), (10, .int .i64 s17.2.2.1), (11, v156), (12, .int .i64 s23.2.2.2), (14, .int .i64 (s23.1.length : Int))]) ⟨rfl, rfl, rfl, rfl, rfl, rfl, rfl, rfl, rfl, rfl, rfl, trivial⟩
                        refine nrm ?_
                        obtain rfl := Option.some.inj hm
                        exact ⟨v165, v167, haq856.pick' ⟨rfl, rfl, rfl, rfl, rfl, rfl, rfl, rfl, rfl, rfl, rfl, trivial⟩, St.sel hsq856 9 [1, 0, 2, 4, 5, 6, 7, 3, 8] rfl rfl⟩
                · rintro aq857 wq857 ⟨v162, v163, haq857, hsq857⟩
                  refine wp_region_lit ?_
                  refine seq_op0 haq857 hsq857 (opT_move (v := v156) rfl rfl) rfl rfl ?_
                  rintro u aq858 wq858 hf haq858 hsq858
                  obtain rfl := Eq.symm hf
                  clear haq857 hsq857 aq857 wq857
                  refine seq_op0 haq858 hsq858 (opT_move (v := .int .i64 s25.2.2) rfl rfl) rfl rfl ?_
                  rintro u aq859 wq859 hf haq859 hsq859
                  obtain rfl := Eq.symm hf
                  clear haq858 hsq858 aq858 wq858
                  refine seq_op haq859 hsq859 rfl (opT_lit_cpy (E := 3) (R := rInt) (S := rInt) [(.int .i64 s25.2.2, [.int .i64 s25.2.2])] [s25.2.2] cpy_int (rd_all ⟨rfl, trivial⟩) Try.underlying34 tz3 (by decide) rfl (by decide) (by decide) rfl rfl rfl rfl (us_all ⟨⟨rfl, rfl⟩, trivial⟩)) (List.Perm.refl _) rfl ?_
                  rintro v168 aq860 wq860 - haq860 (hsq860 : St I w0 wq860 [Ch.own (rSlice 3 rInt) [v168] ([s25.2.2]), Ch.own (rSlice 3 rInt) [v162] s25.1, Ch.own (rSlice 3 rInt) [v163] s25.2.1, Ch.blk g1 [.int .i64 p0.1, va0, va1] 27, Ch.blk g2 [.int .i64 0, .slice none 0 0, .slice none 0 0] 27, Ch.blk g3 [.int .i64 0, v119, v120] 27, Ch.own (rSlice 4 rBool) [v119] s17.2.2.2.1, Ch.own (rSlice 34 (rSlice 3 rInt)) [v120] s17.2.2.2.2, Ch.own (rSlice 3 rInt) [v156] s23.2.2.1, F])
                  clear haq859 hsq859 aq859 wq859
                  obtain ⟨z49, e155, hm⟩ := bind_some hm
                  refine seq_op haq860 hsq860 rfl (opT_app (E := 3) (R := rInt) (s := v156) (u := v168) e155 Try.underlying34 tz3 rfl (by decide) rfl (by decide) rfl rfl rfl) (perm_sel [8, 0, 1, 2, 3, 4, 5, 6, 7, 9] (m := 10) rfl rfl) rfl ?_
                  rintro v169 aq861 wq861 - haq861 (hsq861 : St I w0 wq861 [Ch.own (rSlice 3 rInt) [v169] z49, Ch.own (rSlice 3 rInt) [v162] s25.1, Ch.own (rSlice 3 rInt) [v163] s25.2.1, Ch.blk g1 [.int .i64 p0.1, va0, va1] 27, Ch.blk g2 [.int .i64 0, .slice none 0 0, .slice none 0 0] 27, Ch.blk g3 [.int .i64 0, v119, v120] 27, Ch.own (rSlice 4 rBool) [v119] s17.2.2.2.1, Ch.own (rSlice 34 (rSlice 3 rInt)) [v120] s17.2.2.2.2, F])
                  clear haq860 hsq860 aq860 wq860
                  refine seq_op0 haq861 hsq861 (opT_assign (v := v169) rfl rfl) rfl rfl ?_
                  rintro u aq862 wq862 hf haq862 hsq862
                  obtain rfl := Eq.symm hf
                  clear haq861 hsq861 aq861 wq861
                  refine wpList_nil ?_
                  replace haq862 := haq862.pick' (L' := [(1, va2), (2, va3), (3, .pointer (some ⟨g1, 0, none⟩)), (6, .pointer (some ⟨g2, 0, none⟩)), (7, .pointer (some ⟨g3, 0, none⟩)), (8, v162), (9, v163), (10, .int .i64 s17.2.2.1), (11, v169), (12, .int .i64 s23.2.2.2)]) ⟨rfl, rfl, rfl, rfl, rfl, rfl, rfl, rfl, rfl, rfl, trivial⟩
                  refine nrmB ?_
                  refine nrm ?_
                  refine wp_region_lit ?_
                  refine seq_op0 haq862 hsq862 (opT_move (v := .int .i64 s23.2.2.2) rfl rfl) rfl rfl ?_
                  rintro u aq863 wq863 hf haq863 hsq863
                  obtain rfl := Eq.symm hf
                  clear haq862 hsq862 aq862 wq862
                  refine seq_op0 haq863 hsq863 (opT_add (m := s23.2.2.2) (n := 1) rfl rfl rfl) rfl rfl ?_
                  rintro u aq864 wq864 hf haq864 hsq864
                  obtain rfl := Eq.symm hf
                  clear haq863 hsq863 aq863 wq863
                  refine seq_op0 haq864 hsq864 (opT_assign (v := .int .i64 (IntKind.i64.wrap (s23.2.2.2 + 1))) rfl rfl) rfl rfl ?_
                  rintro u aq865 wq865 hf haq865 hsq865
                  obtain rfl := Eq.symm hf
                  clear haq864 hsq864 aq864 wq864
                  refine wpList_nil ?_
                  replace haq865 := haq865.pick' (L' := [(1, va2), (2, va3), (3, .pointer (some ⟨g1, 0, none⟩)), (6, .pointer (some ⟨g2, 0, none⟩)), (7, .pointer (some ⟨g3, 0, none⟩)), (8, v162), (9, v163), (10, .int .i64 s17.2.2.1), (11, v169), (12, .int .i64 (IntKind.i64.wrap (s23.2.2.2 + 1)))]) ⟨rfl, rfl, rfl, rfl, rfl, rfl, rfl, rfl, rfl, rfl, trivial⟩
                  refine nrm ?_
                  exact ⟨_, (Option.some.inj hm).symm, ⟨v162, v163, v169, haq865.pick' ⟨rfl, rfl, rfl, rfl, rfl, rfl, rfl, rfl, rfl, rfl, trivial⟩, St.sel hsq865 9 [1, 2, 0, 3, 4, 5, 6, 7, 8] rfl rfl⟩⟩
          · rintro aq866 wq866 ⟨s24, ho12, v151, v152, v153, haq866, hsq866⟩
            replace hm := loopOut ho12 hc12
            clear ho12 hc12 hl4
            refine nrm ?_
            refine wp_seq ?_
            obtain ⟨x88, e156, hm⟩ := bind_some hm
            have hd2 := (St.hd hsq866 1 rfl).1
            obtain ⟨x89, e157, hm⟩ := bind_some hm
            obtain ⟨z50, e158, hm⟩ := bind_some hm
            refine wp_draw (L := [(1, va2), (2, va3), (3, .pointer (some ⟨g1, 0, none⟩)), (6, .pointer (some ⟨g2, 0, none⟩)), (7, .pointer (some ⟨g3, 0, none⟩)), (8, v151), (9, v152), (10, .int .i64 s17.2.2.1), (11, v153)]) (C := [Ch.own (rSlice 3 rInt) [v151] s24.1, Ch.own (rSlice 3 rInt) [v153] s24.2.2.1, Ch.blk g2 [.int .i64 0, .slice none 0 0, .slice none 0 0] 27, Ch.own (rSlice 34 (rSlice 3 rInt)) [v120] s17.2.2.2.2, F]) { ops := [⟨[], [], [], [0], fun | [xo0] => xo0 = .pointer (some ⟨g3, 1, none⟩) | _ => True, [(7, none)]⟩, ⟨[0], [], [], [1], fun | [xo1] => xo1 = v119 | _ => True, [(87, some 0)]⟩, ⟨[], [], [], [2], fun | [xo2] => xo2 = .pointer (some ⟨g1, 1, none⟩) | _ => True, [(3, none)]⟩, ⟨[1], [], [], [3], fun | [xo3] => xo3 = va0 | _ => True, [(89, some 2)]⟩, ⟨[], [], [], [4], fun | [xo4] => xo4 = v152 | _ => True, [(9, none)]⟩, ⟨[], [], [], [5], fun | [xo5] => xo5 = .int .i64 s17.2.2.1 | _ => True, [(10, none)]⟩, ⟨[], [], [], [6], fun | [xo6] => xo6 = pt v152 (s17.2.2.1.toNat * 1) | _ => True, [(91, some 4), (92, some 5)]⟩, ⟨[2], [], [], [7], fun | [xo7] => xo7 = .int .i64 x88 | _ => True, [(93, some 6)]⟩, ⟨[], [], [], [8], fun | [xo8] => xo8 = pt va0 (x88.toNat * 1) | _ => True, [(90, some 3), (94, some 7)]⟩, ⟨[], [], [], [9], fun | [xo9] => xo9 = .bool x89 | _ => True, [(95, some 8)]⟩, ⟨[], [], [4], [10], fun | [xo10] => Hd xo10 ([x89]).length | _ => True, [(96, some 9)]⟩, ⟨[], [3, 4], [5], [11], fun | [xo11] => Hd xo11 (z50).length | _ => True, [(88, some 1), (97, some 10)]⟩, ⟨[], [], [], [12], fun | [xo12] => xo12 = .pointer (some ⟨g3, 1, none⟩) | _ => True, [(7, none)]⟩, ⟨[], [0], [6], [13], fun | [xo13] => True | _ => True, [(99, some 12), (98, some 11)]⟩], res := [⟨[], fun _ => Ch.blk g3 [.int .i64 0, v119, v120] 27⟩, ⟨[], fun _ => Ch.blk g1 [.int .i64 p0.1, va0, va1] 27⟩, ⟨[], fun _ => Ch.own (rSlice 3 rInt) [v152] s24.2.1⟩, ⟨[], fun _ => Ch.own (rSlice 4 rBool) [v119] s17.2.2.2.1⟩, ⟨[10], fun | [xo10] => Ch.own (rSlice 4 rBool) [xo10] ([x89]) | _ => Ch.fr (fun _ => none) []⟩, ⟨[11], fun | [xo11] => Ch.own (rSlice 4 rBool) [xo11] z50 | _ => Ch.fr (fun _ => none) []⟩, ⟨[11], fun | [xo11] => Ch.blk g3 [.int .i64 0, xo11, v120] 27 | _ => Ch.fr (fun _ => none) []⟩], base := [0, 1, 2, 3], pre := [[], [0], [], [2], [], [], [4, 5], [4, 5, 6], [2, 3, 4, 5, 6, 7], [2, 3, 4, 5, 6, 7, 8], [2, 3, 4, 5, 6, 7, 8, 9], [0, 1, 2, 3, 4, 5, 6, 7, 8, 9, 10], [0, 1, 2, 3, 4, 5, 6, 7, 8, 9, 10, 11], [0, 1, 2, 3, 4, 5, 6, 7, 8, 9, 10, 11, 12]], fin := [(1, none), (2, none), (3, none), (6, none), (7, none), (8, none), (9, none), (10, none), (11, none)], left := [1, 2, 5, 6] } (by kernel_rfl) haq866 hsq866 (perm_sel [5, 3, 1, 6, 0, 2, 4, 7, 8] (m := 9) rfl rfl) (by kernel_rfl) (by kernel_rfl) ?_ ?_
            · exact ⟨Plan.goal_run fun vs hf => ⟨wants_none rfl, OpT.conv (OpT.evs (ev' := evL [(7, .pointer (some ⟨g3, 0, none⟩))]) (opT_field_addr (g := g3) (b := 0) tf27_1 rfl rfl) rfl [.tmp 7] rfl ⟨rfl, trivial⟩) rfl (fun _ h => Eq.trans h rfl) (fun _ => rfl)⟩, Plan.goal_run fun vs hf => ⟨wants_none rfl, OpT.conv (OpT.evs (ev' := evL [(87, .pointer (some ⟨g3, 1, none⟩))]) (opT_load_blk (g := g3) (off := 1) (E := 27) (l := [.int .i64 0, v119, v120]) (d := [v119]) (u := v119) ti22 rfl rfl rfl rfl rfl rfl) rfl [.tmp 87] rfl ⟨(hf 0 (mb rfl)), trivial⟩) rfl (fun _ h => Eq.trans h rfl) (fun _ => rfl)⟩, Plan.goal_run fun vs hf => ⟨wants_none rfl, OpT.conv (OpT.evs (ev' := evL [(3, .pointer (some ⟨g1, 0, none⟩))]) (opT_field_addr (g := g1) (b := 0) tf27_1 rfl rfl) rfl [.tmp 3] rfl ⟨rfl, trivial⟩) rfl (fun _ h => Eq.trans h rfl) (fun _ => rfl)⟩, Plan.goal_run fun vs hf => ⟨wants_none rfl, OpT.conv (OpT.evs (ev' := evL [(89, .pointer (some ⟨g1, 1, none⟩))]) (opT_load_blk (g := g1) (off := 1) (E := 27) (l := [.int .i64 p0.1, va0, va1]) (d := [va0]) (u := va0) ti22 rfl rfl rfl rfl rfl rfl) rfl [.tmp 89] rfl ⟨(hf 2 (mb rfl)), trivial⟩) rfl (fun _ h => Eq.trans h rfl) (fun _ => rfl)⟩, Plan.goal_run fun vs hf => ⟨wants_none rfl, OpT.conv (OpT.evs (ev' := evL [(9, v152)]) (opT_move (v := v152) rfl rfl) rfl [.tmp 9] rfl ⟨rfl, trivial⟩) rfl (fun _ h => Eq.trans h rfl) (fun _ => rfl)⟩, Plan.goal_run fun vs hf => ⟨wants_none rfl, OpT.conv (OpT.evs (ev' := evL [(10, .int .i64 s17.2.2.1)]) (opT_move (v := .int .i64 s17.2.2.1) rfl rfl) rfl [.tmp 10] rfl ⟨rfl, trivial⟩) rfl (fun _ h => Eq.trans h rfl) (fun _ => rfl)⟩, Plan.goal_run fun vs hf => ⟨wants_none rfl, OpT.conv (OpT.evs (ev' := evL [(91, v152), (92, .int .i64 s17.2.2.1)]) (opT_index_hd (xs := s24.2.1) (i := s17.2.2.1) (n := 1) hd2 Try.underlying34 ti3 rfl rfl rfl (getI_in e156)) rfl [.tmp 91, .tmp 92] rfl ⟨(hf 4 (mb rfl)), (hf 5 (mb rfl)), trivial⟩) rfl (fun _ h => Eq.trans h rfl) (fun _ => rfl)⟩, Plan.goal_run fun vs hf => ⟨wants_none rfl, OpT.conv (OpT.evs (ev' := evL [(93, pt v152 (s17.2.2.1.toNat * 1))]) (opT_load_own (E := 3) (R := rInt) (S := rInt) (xs := s24.2.1) (a := x88) (i := s17.2.2.1) (k := 1) (off := 0) (f := fun (x : Int) => x) sh_int e156 Fld.self ti3 rfl rfl rfl rfl rfl) rfl [.tmp 93] rfl ⟨(hf 6 (mb rfl)), trivial⟩) rfl (fun _ h => lds_one h) (fun _ => rfl)⟩, Plan.goal_run fun vs hf => ⟨wants_none rfl, OpT.conv (OpT.evs (ev' := evL [(90, va0), (94, .int .i64 x88)]) (opT_index_hd (xs := p0.2.1) (i := x88) (n := 1) (Hd.of_rd ra0) Try.underlying22 ti4 rfl rfl rfl (getI_in e157)) rfl [.tmp 90, .tmp 94] rfl ⟨(hf 3 (mb rfl)), (hf 7 (mb rfl)), trivial⟩) rfl (fun _ h => Eq.trans h rfl) (fun _ => rfl)⟩, Plan.goal_run fun vs hf => ⟨wants_none rfl, OpT.conv (OpT.evs (ev' := evL [(95, pt va0 (x88.toNat * 1))]) (opT_load_el (S := rBool) (xs := p0.2.1) (a := x89) (i := x88) (k := 1) (off := 0) (f := fun (x : Bool) => x) ra0 e157 Fld.self ti4 rfl rfl rfl rfl rfl) rfl [.tmp 95] rfl ⟨(hf 8 (mb rfl)), trivial⟩) rfl (fun _ h => lds_one h) (fun _ => rfl)⟩, Plan.goal_run fun vs hf => ⟨wants_none rfl, OpT.conv (OpT.evs (ev' := evL [(96, .bool x89)]) (OpT.hdk (E := 4) (R := rBool) (xs := [x89]) (fun v => v) 0 (fun _ => rfl) (opT_lit_cpy (E := 4) (R := rBool) (S := rBool) [(.bool x89, [.bool x89])] [x89] cpy_bool (rd_all ⟨rfl, trivial⟩) Try.underlying22 tz4 (by decide) rfl (by decide) (by decide) rfl rfl rfl rfl (us_all ⟨⟨rfl, rfl⟩, trivial⟩))) rfl [.tmp 96] rfl ⟨(hf 9 (mb rfl)), trivial⟩) rfl (fun _ h => h.2) (fun _ => rfl)⟩, Plan.goal_run fun vs hf => ⟨wants_none rfl, OpT.conv (OpT.evs (ev' := evL [(88, v119), (97, (vs 10))]) (OpT.hdk (E := 4) (R := rBool) (xs := z50) (fun v => v) 0 (fun _ => rfl) (opT_app (E := 4) (R := rBool) (s := v119) (u := (vs 10)) e158 Try.underlying22 tz4 rfl (by decide) rfl (by decide) rfl rfl rfl)) rfl [.tmp 88, .tmp 97] rfl ⟨(hf 1 (mb rfl)), rfl, trivial⟩) rfl (fun _ h => h.2) (fun _ => rfl)⟩, Plan.goal_run fun vs hf => ⟨wants_none rfl, OpT.conv (OpT.evs (ev' := evL [(7, .pointer (some ⟨g3, 0, none⟩))]) (opT_field_addr (g := g3) (b := 0) tf27_1 rfl rfl) rfl [.tmp 7] rfl ⟨rfl, trivial⟩) rfl (fun _ h => Eq.trans h rfl) (fun _ => rfl)⟩, Plan.goal_run fun vs hf => ⟨wants_none rfl, OpT.conv (OpT.evs (ev' := evL [(99, .pointer (some ⟨g3, 1, none⟩)), (98, (vs 11))]) (opT_store_blk (g := g3) (off := 1) (l := [.int .i64 0, v119, v120]) (d := [(vs 11)]) (E := 27) (u := (vs 11)) ti22 rfl rfl rfl (Hd.cells (show Hd (vs 11) (z50).length from (hf 11 (mb rfl)))) rfl (allC (Hd.one (show Hd (vs 11) (z50).length from (hf 11 (mb rfl)))) allN) (Nat.le_of_ble_eq_true rfl)) rfl [.tmp 99, .tmp 98] rfl ⟨(hf 12 (mb rfl)), rfl, trivial⟩) rfl (fun _ _ => trivial) (fun _ => rfl)⟩, trivial⟩
            intro vs aq867 wq867 hf haq867 hsq867
            clear haq866 hsq866
            replace haq867 := haq867.pick' (L' := [(1, va2), (2, va3), (3, .pointer (some ⟨g1, 0, none⟩)), (6, .pointer (some ⟨g2, 0, none⟩)), (7, .pointer (some ⟨g3, 0, none⟩)), (8, v151), (9, v152), (10, .int .i64 s17.2.2.1), (11, v153)]) ⟨rfl, rfl, rfl, rfl, rfl, rfl, rfl, rfl, rfl, trivial⟩
            replace hsq867 : St I w0 wq867 [Ch.blk g1 [.int .i64 p0.1, va0, va1] 27, Ch.own (rSlice 3 rInt) [v152] s24.2.1, Ch.own (rSlice 4 rBool) [(vs 11)] z50, Ch.blk g3 [.int .i64 0, (vs 11), v120] 27, Ch.own (rSlice 3 rInt) [v151] s24.1, Ch.own (rSlice 3 rInt) [v153] s24.2.2.1, Ch.blk g2 [.int .i64 0, .slice none 0 0, .slice none 0 0] 27, Ch.own (rSlice 34 (rSlice 3 rInt)) [v120] s17.2.2.2.2, F] := hsq867
            obtain ⟨v171, ea1⟩ : ∃ x, x = (vs 11) := ⟨_, rfl⟩
            try rw [← ea1] at haq867
            try rw [← ea1] at hsq867
            clear ea1
            clear hf vs
            refine nrm ?_
            refine wp_region_lit ?_
            refine seq_op0 haq867 hsq867 (opT_field_addr (g := g3) (b := 0) tf27_2 rfl rfl) rfl rfl ?_
            rintro u aq868 wq868 hf haq868 hsq868
            obtain rfl := Eq.symm hf
            clear haq867 hsq867 aq867 wq867
            refine seq_op haq868 hsq868 rfl (opT_load_blk (g := g3) (off := 2) (E := 27) (l := [.int .i64 0, v171, v120]) (d := [v120]) (u := v120) ti23 rfl rfl rfl rfl rfl rfl) (perm_front (i := 3) rfl) rfl ?_
            rintro u aq869 wq869 hf haq869 (hsq869 : St I w0 wq869 [Ch.blk g3 [.int .i64 0, v171, v120] 27, Ch.blk g1 [.int .i64 p0.1, va0, va1] 27, Ch.own (rSlice 3 rInt) [v152] s24.2.1, Ch.own (rSlice 4 rBool) [v171] z50, Ch.own (rSlice 3 rInt) [v151] s24.1, Ch.own (rSlice 3 rInt) [v153] s24.2.2.1, Ch.blk g2 [.int .i64 0, .slice none 0 0, .slice none 0 0] 27, Ch.own (rSlice 34 (rSlice 3 rInt)) [v120] s17.2.2.2.2, F])
            obtain rfl := Eq.symm hf
            clear haq868 hsq868 aq868 wq868
            refine seq_op0 haq869 hsq869 (opT_move (v := v153) rfl rfl) rfl rfl ?_
            rintro u aq870 wq870 hf haq870 hsq870
            obtain rfl := Eq.symm hf
            clear haq869 hsq869 aq869 wq869
            refine seq_op haq870 hsq870 rfl (opT_lit (E := 34) (R := rSlice 3 rInt) [(v153, [v153])] [s24.2.2.1] Try.underlying23 tz34 (by decide) rfl (by decide) (by decide) rfl rfl rfl rfl (us_all ⟨⟨(Hd.cells (St.hd hsq870 5 rfl).1), rfl⟩, trivial⟩)) (perm_front (i := 5) rfl) rfl ?_
            rintro v172 aq871 wq871 - haq871 (hsq871 : St I w0 wq871 [Ch.own (rSlice 34 (rSlice 3 rInt)) [v172] ([s24.2.2.1]), Ch.blk g3 [.int .i64 0, v171, v120] 27, Ch.blk g1 [.int .i64 p0.1, va0, va1] 27, Ch.own (rSlice 3 rInt) [v152] s24.2.1, Ch.own (rSlice 4 rBool) [v171] z50, Ch.own (rSlice 3 rInt) [v151] s24.1, Ch.blk g2 [.int .i64 0, .slice none 0 0, .slice none 0 0] 27, Ch.own (rSlice 34 (rSlice 3 rInt)) [v120] s17.2.2.2.2, F])
            clear haq870 hsq870 aq870 wq870
            obtain ⟨z51, e159, hm⟩ := bind_some hm
            refine seq_op haq871 hsq871 rfl (opT_app (E := 34) (R := rSlice 3 rInt) (s := v120) (u := v172) e159 Try.underlying23 tz34 rfl (by decide) rfl (by decide) rfl rfl rfl) (perm_sel [7, 0, 1, 2, 3, 4, 5, 6, 8] (m := 9) rfl rfl) rfl ?_
            rintro v173 aq872 wq872 - haq872 (hsq872 : St I w0 wq872 [Ch.own (rSlice 34 (rSlice 3 rInt)) [v173] z51, Ch.blk g3 [.int .i64 0, v171, v120] 27, Ch.blk g1 [.int .i64 p0.1, va0, va1] 27, Ch.own (rSlice 3 rInt) [v152] s24.2.1, Ch.own (rSlice 4 rBool) [v171] z50, Ch.own (rSlice 3 rInt) [v151] s24.1, Ch.blk g2 [.int .i64 0, .slice none 0 0, .slice none 0 0] 27, F])
            clear haq871 hsq871 aq871 wq871
            refine seq_op0 haq872 hsq872 (opT_field_addr (g := g3) (b := 0) tf27_2 rfl rfl) rfl rfl ?_
            rintro u aq873 wq873 hf haq873 hsq873
            obtain rfl := Eq.symm hf
            clear haq872 hsq872 aq872 wq872
            refine seq_op haq873 hsq873 rfl (opT_store_blk (g := g3) (off := 2) (l := [.int .i64 0, v171, v120]) (d := [v173]) (E := 27) (u := v173) ti23 rfl rfl rfl (Hd.cells (St.hd hsq873 0 rfl).1) rfl (allC (Hd.one (St.hd hsq873 0 rfl).1) allN) (Nat.le_of_ble_eq_true rfl)) (perm_front (i := 1) rfl) rfl ?_
            rintro _ aq874 wq874 - haq874 (hsq874 : St I w0 wq874 [Ch.blk g3 [.int .i64 0, v171, v173] 27, Ch.own (rSlice 34 (rSlice 3 rInt)) [v173] z51, Ch.blk g1 [.int .i64 p0.1, va0, va1] 27, Ch.own (rSlice 3 rInt) [v152] s24.2.1, Ch.own (rSlice 4 rBool) [v171] z50, Ch.own (rSlice 3 rInt) [v151] s24.1, Ch.blk g2 [.int .i64 0, .slice none 0 0, .slice none 0 0] 27, F])
            clear haq873 hsq873 aq873 wq873
            refine wpList_nil ?_
            replace haq874 := haq874.pick' (L' := [(1, va2), (2, va3), (3, .pointer (some ⟨g1, 0, none⟩)), (6, .pointer (some ⟨g2, 0, none⟩)), (7, .pointer (some ⟨g3, 0, none⟩)), (8, v151), (9, v152), (10, .int .i64 s17.2.2.1)]) ⟨rfl, rfl, rfl, rfl, rfl, rfl, rfl, rfl, trivial⟩
            refine nrmB ?_
            refine nrm ?_
            refine wp_region_lit ?_
            refine seq_op0 haq874 hsq874 (opT_move (v := .int .i64 s17.2.2.1) rfl rfl) rfl rfl ?_
            rintro u aq875 wq875 hf haq875 hsq875
            obtain rfl := Eq.symm hf
            clear haq874 hsq874 aq874 wq874
            refine seq_op0 haq875 hsq875 (opT_add (m := s17.2.2.1) (n := 1) rfl rfl rfl) rfl rfl ?_
            rintro u aq876 wq876 hf haq876 hsq876
            obtain rfl := Eq.symm hf
            clear haq875 hsq875 aq875 wq875
            refine seq_op0 haq876 hsq876 (opT_assign (v := .int .i64 (IntKind.i64.wrap (s17.2.2.1 + 1))) rfl rfl) rfl rfl ?_
            rintro u aq877 wq877 hf haq877 hsq877
            obtain rfl := Eq.symm hf
            clear haq876 hsq876 aq876 wq876
            refine wpList_nil ?_
            replace haq877 := haq877.pick' (L' := [(1, va2), (2, va3), (3, .pointer (some ⟨g1, 0, none⟩)), (6, .pointer (some ⟨g2, 0, none⟩)), (7, .pointer (some ⟨g3, 0, none⟩)), (8, v151), (9, v152), (10, .int .i64 (IntKind.i64.wrap (s17.2.2.1 + 1)))]) ⟨rfl, rfl, rfl, rfl, rfl, rfl, rfl, rfl, trivial⟩
            refine nrm ?_
            exact ⟨_, (Option.some.inj hm).symm, ⟨v151, v152, v171, v173, haq877.pick' ⟨rfl, rfl, rfl, rfl, rfl, rfl, rfl, rfl, trivial⟩, St.sel hsq877 8 [5, 3, 4, 1, 2, 6, 0, 7] rfl rfl⟩⟩
    · rintro aq878 wq878 ⟨s18, ho13, v115, v116, haq878, hsq878⟩
      replace hm := loopOut ho13 hc9
      clear ho13 hc9 hl3
      refine nrm ?_
      refine wp_seq ?_
      refine wp_region_lit ?_
      refine seq_op haq878 hsq878 rfl (opT_load_blk (g := g3) (off := 0) (E := 27) (l := [.int .i64 0, v115, v116]) (d := [.int .i64 0, v115, v116]) (u := .agg #[.int .i64 0, v115, v116]) ti27 rfl rfl rfl rfl rfl rfl) (perm_front (i := 3) rfl) rfl ?_
      rintro u aq879 wq879 hf haq879 (hsq879 : St I w0 wq879 [Ch.blk g3 [.int .i64 0, v115, v116] 27, Ch.own (rSlice 4 rBool) [v115] s18.2.2.2.1, Ch.own (rSlice 34 (rSlice 3 rInt)) [v116] s18.2.2.2.2, Ch.blk g2 [.int .i64 0, .slice none 0 0, .slice none 0 0] 27, F])
      obtain rfl := Eq.symm hf
      clear haq878 hsq878 aq878 wq878
      refine seq_op haq879 hsq879 rfl (opT_store_blk (g := g2) (off := 0) (l := [.int .i64 0, .slice none 0 0, .slice none 0 0]) (d := [.int .i64 0, v115, v116]) (E := 27) (u := .agg #[.int .i64 0, v115, v116]) ti27 rfl rfl rfl rfl rfl (allC rfl (allC (Hd.one (St.hd hsq879 1 rfl).1) (allC (Hd.one (St.hd hsq879 2 rfl).1) allN))) (Nat.le_of_ble_eq_true rfl)) (perm_front (i := 3) rfl) rfl ?_
      rintro _ aq880 wq880 - haq880 (hsq880 : St I w0 wq880 [Ch.blk g2 [.int .i64 0, v115, v116] 27, Ch.blk g3 [.int .i64 0, v115, v116] 27, Ch.own (rSlice 4 rBool) [v115] s18.2.2.2.1, Ch.own (rSlice 34 (rSlice 3 rInt)) [v116] s18.2.2.2.2, F])
      clear haq879 hsq879 aq879 wq879
      refine wpList_nil ?_
      replace haq880 := haq880.pick' (L' := [(6, .pointer (some ⟨g2, 0, none⟩))]) ⟨rfl, trivial⟩
      refine nrm ?_
      refine wp_ret ?_
      obtain rfl := Option.some.inj hm
      exact ret_1 haq880 rfl (res_cell (g := g2) haq880 rfl hsq880 0 rfl ti27 rfl) ⟨_, rfl, ⟨_, _, rfl⟩, _, Hp.le.rfl, St.sel (hsq880) 5 [2, 3, 4] rfl rfl⟩
set_option maxHeartbeats 8000000 in
theorem c_w_szIntSS (p0a : List (List Int)) (p1left : Int) (r : Int) (hm : m_w_szIntSS p0a p1left = some r) {I : Hp} {w0 : World} (va0 : Value) (ra0 : (rSlice 34 (rSlice 3 rInt)).rd I [va0] p0a) : Con Try.prog 45 #[va0, .int .i64 p1left] I w0 [] (fun v => v = .int .i64 r) (fun v => []) := by
  refine con_of_wp (n := 27) [(0, va0), (1, .int .i64 p1left)] Try.func45 rfl rfl (Nat.le_of_ble_eq_true rfl) (args_all ⟨rfl, rfl, trivial⟩) (fun F w a ha hs => ?_) (fun v => trivial)
  unfold m_w_szIntSS at hm
  refine wp_seq ?_
  refine wp_region_lit ?_
  refine seq_op0 ha hs (opT_assign (v := .int .i64 0) rfl rfl) rfl rfl ?_
  rintro u aq1 wq1 hf haq1 hsq1
  obtain rfl := Eq.symm hf
  clear ha hs a w
  refine wpList_nil ?_
  replace haq1 := haq1.pick' (L' := [(0, va0), (1, .int .i64 p1left)]) ⟨rfl, rfl, trivial⟩
  refine nrm ?_
  refine wp_seq ?_
  refine wp_region_lit ?_
  refine seq_op0 haq1 hsq1 (opT_move (v := .int .i64 p1left) rfl rfl) rfl rfl ?_
  rintro u aq2 wq2 hf haq2 hsq2
  obtain rfl := Eq.symm hf
  clear haq1 hsq1 aq1 wq1
  refine seq_op0 haq2 hsq2 (opT_move (v := va0) rfl rfl) rfl rfl ?_
  rintro u aq3 wq3 hf haq3 hsq3
  obtain rfl := Eq.symm hf
  clear haq2 hsq2 aq2 wq2
  refine seq_op0 haq3 hsq3 (opT_len_hd (v := va0) (n := p0a.length) (Hd.of_rd ra0) Try.underlying23 rfl rfl) rfl rfl ?_
  rintro u aq4 wq4 hf haq4 hsq4
  obtain rfl := Eq.symm hf
  clear haq3 hsq3 aq3 wq3
  refine seq_op0 haq4 hsq4 (opT_sub (m := p1left) (n := (p0a.length : Int)) rfl rfl rfl) rfl rfl ?_
  rintro u aq5 wq5 hf haq5 hsq5
  obtain rfl := Eq.symm hf
  clear haq4 hsq4 aq4 wq4
  refine seq_op0 haq5 hsq5 (opT_assign (v := .int .i64 (IntKind.i64.wrap (p1left - (p0a.length : Int)))) rfl rfl) rfl rfl ?_
  rintro u aq6 wq6 hf haq6 hsq6
  obtain rfl := Eq.symm hf
  clear haq5 hsq5 aq5 wq5
  refine wpList_nil ?_
  replace haq6 := haq6.pick' (L' := [(0, va0), (1, .int .i64 (IntKind.i64.wrap (p1left - (p0a.length : Int))))]) ⟨rfl, rfl, trivial⟩
  refine nrm ?_
  refine wp_seq ?_
  refine wp_seq ?_
  refine wp_region_lit ?_
  refine seq_op0 haq6 hsq6 (opT_move (v := .int .i64 (IntKind.i64.wrap (p1left - (p0a.length : Int)))) rfl rfl) rfl rfl ?_
  rintro u aq7 wq7 hf haq7 hsq7
  obtain rfl := Eq.symm hf
  clear haq6 hsq6 aq6 wq6
  refine seq_op0 haq7 hsq7 (opT_cmp (k := .i64) (m := IntKind.i64.wrap (p1left - (p0a.length : Int))) (n := 0) (c := decide (IntKind.i64.wrap (p1left - (p0a.length : Int)) < 0)) rfl rfl rfl rfl rfl) rfl rfl ?_
  rintro u aq8 wq8 hf haq8 hsq8
  obtain rfl := Eq.symm hf
  clear haq7 hsq7 aq7 wq7
  refine wpList_nil ?_
  replace haq8 := haq8.pick' (L' := [(0, va0), (1, .int .i64 (IntKind.i64.wrap (p1left - (p0a.length : Int)))), (11, .bool (decide (IntKind.i64.wrap (p1left - (p0a.length : Int)) < 0)))]) ⟨rfl, rfl, rfl, trivial⟩
  refine nrm ?_
  rcases two (decide (IntKind.i64.wrap (p1left - (p0a.length : Int)) < 0)) with hb1 | hb1
  · replace hm := ifFe hb1 hm
    refine cnd_false (b := decide (IntKind.i64.wrap (p1left - (p0a.length : Int)) < 0)) haq8 rfl rfl hb1 ?_
    refine wp_skip ?_
    refine nrm ?_
    refine wp_seq ?_
    refine wp_seq ?_
    refine wp_region_lit ?_
    refine seq_op0 haq8 hsq8 (opT_assign (v := .int .i64 0) rfl rfl) rfl rfl ?_
    rintro u aq9 wq9 hf haq9 hsq9
    obtain rfl := Eq.symm hf
    clear haq8 hsq8 aq8 wq8
    refine wpList_nil ?_
    replace haq9 := haq9.pick' (L' := [(0, va0), (1, .int .i64 (IntKind.i64.wrap (p1left - (p0a.length : Int)))), (5, .int .i64 0)]) ⟨rfl, rfl, rfl, trivial⟩
    refine nrm ?_
    obtain ⟨o1, hl1, hc1⟩ := bindL_some hm
    refine wp_cut (fun a w => ∃ s4 : Int × Int, o1 = .brk s4 ∧ Agr 27 a [(1, .int .i64 s4.1)] ∧ St I w0 w [F]) ?_ ?_
    · refine wp_block (wp_loopM (R := Int) (S := Int × Int) (fun s3 a w => Agr 27 a [(0, va0), (1, .int .i64 s3.1), (5, .int .i64 s3.2)] ∧ St I w0 w [F]) hl1 ?_ ?_)
      · exact ⟨haq9.pick' ⟨rfl, rfl, rfl, trivial⟩, St.sel hsq9 1 [0] rfl rfl⟩
      · rintro s3 o2 hm hf1 aq44 wq44 ⟨haq44, hsq44⟩
        unfold m_w_szIntSS_l0 at hm
        refine wp_seq ?_
        refine wp_seq ?_
        refine wp_region_lit ?_
        refine seq_op0 haq44 hsq44 (opT_move (v := .int .i64 s3.2) rfl rfl) rfl rfl ?_
        rintro u aq45 wq45 hf haq45 hsq45
        obtain rfl := Eq.symm hf
        clear haq44 hsq44 aq44 wq44
        refine seq_op0 haq45 hsq45 (opT_move (v := va0) rfl rfl) rfl rfl ?_
        rintro u aq46 wq46 hf haq46 hsq46
        obtain rfl := Eq.symm hf
        clear haq45 hsq45 aq45 wq45
        refine seq_op0 haq46 hsq46 (opT_len_hd (v := va0) (n := p0a.length) (Hd.of_rd ra0) Try.underlying23 rfl rfl) rfl rfl ?_
        rintro u aq47 wq47 hf haq47 hsq47
        obtain rfl := Eq.symm hf
        clear haq46 hsq46 aq46 wq46
        refine seq_op0 haq47 hsq47 (opT_cmp (k := .i64) (m := s3.2) (n := (p0a.length : Int)) (c := decide (s3.2 < (p0a.length : Int))) rfl rfl rfl rfl rfl) rfl rfl ?_
        rintro u aq48 wq48 hf haq48 hsq48
        obtain rfl := Eq.symm hf
        clear haq47 hsq47 aq47 wq47
        refine wpList_nil ?_
        replace haq48 := haq48.pick' (L' := [(0, va0), (1, .int .i64 s3.1), (5, .int .i64 s3.2), (15, .bool (decide (s3.2 < (p0a.length : Int))))]) ⟨rfl, rfl, rfl, rfl, trivial⟩
        refine nrm ?_
        rcases two (decide (s3.2 < (p0a.length : Int))) with hb6 | hb6
        · replace hm := ifFe hb6 hm
          refine cnd_false (b := decide (s3.2 < (p0a.length : Int))) haq48 rfl rfl hb6 ?_
          refine wp_exit ?_
          refine thenX ?_
          refine thenX ?_
          refine ex_in ?_
          refine nrm ?_
          exact ⟨_, loopBrk hm hf1, ⟨haq48.pick' ⟨rfl, trivial⟩, St.sel hsq48 1 [0] rfl rfl⟩⟩
        · replace hm := ifTe hb6 hm
          refine cnd_true (b := decide (s3.2 < (p0a.length : Int))) haq48 rfl rfl hb6 ?_
          refine wp_skip ?_
          refine nrm ?_
          refine wp_seq ?_
          refine wp_block ?_
          refine wp_seq ?_
          refine wp_region_lit ?_
          refine seq_op0 haq48 hsq48 (opT_move (v := va0) rfl rfl) rfl rfl ?_
          rintro u aq49 wq49 hf haq49 hsq49
          obtain rfl := Eq.symm hf
          clear haq48 hsq48 aq48 wq48
          refine seq_op0 haq49 hsq49 (opT_move (v := .int .i64 s3.2) rfl rfl) rfl rfl ?_
          rintro u aq50 wq50 hf haq50 hsq50
          obtain rfl := Eq.symm hf
          clear haq49 hsq49 aq49 wq49
          obtain ⟨x3, e5, hm⟩ := bind_some hm
          refine seq_op0 haq50 hsq50 (opT_index_hd (xs := p0a) (i := s3.2) (n := 1) (Hd.of_rd ra0) Try.underlying23 ti34 rfl rfl rfl (getI_in e5)) rfl rfl ?_
          rintro u aq51 wq51 hf haq51 hsq51
          obtain rfl := Eq.symm hf
          clear haq50 hsq50 aq50 wq50
          refine seq_op0 haq51 hsq51 (opT_load_el (S := rSlice 3 rInt) (xs := p0a) (a := x3) (i := s3.2) (k := 1) (off := 0) (f := fun (x : List Int) => x) ra0 e5 Fld.self ti34 rfl rfl rfl rfl rfl) rfl rfl ?_
          rintro v3 aq52 wq52 hf haq52 hsq52
          have r5 := lds_sl hf
          clear hf
          clear haq51 hsq51 aq51 wq51
          refine seq_op0 haq52 hsq52 (opT_move (v := .int .i64 s3.1) rfl rfl) rfl rfl ?_
          rintro u aq53 wq53 hf haq53 hsq53
          obtain rfl := Eq.symm hf
          clear haq52 hsq52 aq52 wq52
          obtain ⟨r6, e6, hm⟩ := bind_some hm
          refine seq_op0 haq53 hsq53 (opT_call (args := #[v3, .int .i64 s3.1]) (first := #[]) (captured := #[]) en63 rfl rfl rfl (c_w_szIntS x3 s3.1 _ e6 v3 r5)) rfl rfl ?_
          rintro u aq54 wq54 hf haq54 hsq54
          obtain rfl := Eq.symm hf
          clear haq53 hsq53 aq53 wq53
          refine seq_op0 haq54 hsq54 (opT_assign (v := .int .i64 r6) rfl rfl) rfl rfl ?_
          rintro u aq55 wq55 hf haq55 hsq55
          obtain rfl := Eq.symm hf
          clear haq54 hsq54 aq54 wq54
          refine wpList_nil ?_
          replace haq55 := haq55.pick' (L' := [(0, va0), (1, .int .i64 r6), (5, .int .i64 s3.2)]) ⟨rfl, rfl, rfl, trivial⟩
          refine nrm ?_
          refine wp_seq ?_
          refine wp_region_lit ?_
          refine seq_op0 haq55 hsq55 (opT_move (v := .int .i64 r6) rfl rfl) rfl rfl ?_
          rintro u aq56 wq56 hf haq56 hsq56
          obtain rfl := Eq.symm hf
          clear haq55 hsq55 aq55 wq55
          refine seq_op0 haq56 hsq56 (opT_cmp (k := .i64) (m := r6) (n := 0) (c := decide (r6 < 0)) rfl rfl rfl rfl rfl) rfl rfl ?_
          rintro u aq57 wq57 hf haq57 hsq57
          obtain rfl := Eq.symm hf
          clear haq56 hsq56 aq56 wq56
          refine wpList_nil ?_
          replace haq57 := haq57.pick' (L' := [(0, va0), (1, .int .i64 r6), (5, .int .i64 s3.2), (25, .bool (decide (r6 < 0)))]) ⟨rfl, rfl, rfl, rfl, trivial⟩
          refine nrm ?_
          rcases two (decide (r6 < 0)) with hb7 | hb7
          · replace hm := ifFe hb7 hm
            refine cnd_false (b := decide (r6 < 0)) haq57 rfl rfl hb7 ?_
            refine wp_skip ?_
            refine nrmB ?_
            refine nrm ?_
            refine wp_region_lit ?_
            refine seq_op0 haq57 hsq57 (opT_move (v := .int .i64 s3.2) rfl rfl) rfl rfl ?_
            rintro u aq58 wq58 hf haq58 hsq58
            obtain rfl := Eq.symm hf
            clear haq57 hsq57 aq57 wq57
            refine seq_op0 haq58 hsq58 (opT_add (m := s3.2) (n := 1) rfl rfl rfl) rfl rfl ?_
            rintro u aq59 wq59 hf haq59 hsq59
            obtain rfl := Eq.symm hf
            clear haq58 hsq58 aq58 wq58
            refine seq_op0 haq59 hsq59 (opT_assign (v := .int .i64 (IntKind.i64.wrap (s3.2 + 1))) rfl rfl) rfl rfl ?_
            rintro u aq60 wq60 hf haq60 hsq60
            obtain rfl := Eq.symm hf
            clear haq59 hsq59 aq59 wq59
            refine wpList_nil ?_
            replace haq60 := haq60.pick' (L' := [(0, va0), (1, .int .i64 r6), (5, .int .i64 (IntKind.i64.wrap (s3.2 + 1)))]) ⟨rfl, rfl, rfl, trivial⟩
            refine nrm ?_
            exact ⟨_, (Option.some.inj hm).symm, ⟨haq60.pick' ⟨rfl, rfl, rfl, trivial⟩, St.sel hsq60 1 [0] rfl rfl⟩⟩
          · replace hm := ifTe hb7 hm
            refine cnd_true (b := decide (r6 < 0)) haq57 rfl rfl hb7 ?_
            refine wp_seq ?_
            refine wp_region_lit ?_
            refine seq_op0 haq57 hsq57 (opT_assign (v := .int .i64 (-1)) rfl rfl) rfl rfl ?_
            rintro u aq61 wq61 hf haq61 hsq61
            obtain rfl := Eq.symm hf
            clear haq57 hsq57 aq57 wq57
            refine wpList_nil ?_
            replace haq61 := haq61.pick' (L' := [(4, .int .i64 (-1))]) ⟨rfl, trivial⟩
            refine nrm ?_
            refine wp_ret ?_
            refine blkR ?_
            refine thenR ?_
            refine thenR ?_
            refine blkR ?_
            refine thenR ?_
            refine thenR ?_
            replace hm := loopRet hm hf1 hc1
            obtain rfl := Option.some.inj hm
            exact ret_1 haq61 rfl (res_tmp haq61 rfl) ⟨_, rfl, rfl, _, Hp.le.rfl, St.sel (hsq61) 1 [0] rfl rfl⟩
    · rintro aq62 wq62 ⟨s4, ho1, haq62, hsq62⟩
      replace hm := loopOut ho1 hc1
      clear ho1 hc1 hl1
      refine nrm ?_
      refine wp_seq ?_
      refine wp_region_lit ?_
      refine seq_op0 haq62 hsq62 (opT_move (v := .int .i64 s4.1) rfl rfl) rfl rfl ?_
      rintro u aq63 wq63 hf haq63 hsq63
      obtain rfl := Eq.symm hf
      clear haq62 hsq62 aq62 wq62
      refine seq_op0 haq63 hsq63 (opT_assign (v := .int .i64 s4.1) rfl rfl) rfl rfl ?_
      rintro u aq64 wq64 hf haq64 hsq64
      obtain rfl := Eq.symm hf
      clear haq63 hsq63 aq63 wq63
      refine wpList_nil ?_
      replace haq64 := haq64.pick' (L' := [(4, .int .i64 s4.1)]) ⟨rfl, trivial⟩
      refine nrm ?_
      refine wp_ret ?_
      obtain rfl := Option.some.inj hm
      exact ret_1 haq64 rfl (res_tmp haq64 rfl) ⟨_, rfl, rfl, _, Hp.le.rfl, St.sel (hsq64) 1 [0] rfl rfl⟩
  · replace hm := ifTe hb1 hm
    refine cnd_true (b := decide (IntKind.i64.wrap (p1left - (p0a.length : Int)) < 0)) haq8 rfl rfl hb1 ?_
    refine wp_seq ?_
    refine wp_region_lit ?_
    refine seq_op0 haq8 hsq8 (opT_assign (v := .int .i64 (-1)) rfl rfl) rfl rfl ?_
    rintro u aq65 wq65 hf haq65 hsq65
    obtain rfl := Eq.symm hf
    clear haq8 hsq8 aq8 wq8
    refine wpList_nil ?_
    replace haq65 := haq65.pick' (L' := [(4, .int .i64 (-1))]) ⟨rfl, trivial⟩
    refine nrm ?_
    refine wp_ret ?_
    refine thenR ?_
    obtain rfl := Option.some.inj hm
    exact ret_1 haq65 rfl (res_tmp haq65 rfl) ⟨_, rfl, rfl, _, Hp.le.rfl, St.sel (hsq65) 1 [0] rfl rfl⟩
end Go.Proofs.Ytcihbmdppgpmjaa.D
