/- Printed by dec.py: models of functions and the walks that show them. -/
import Derived.Test.YtcihbmdppgpmjaaCw0_0
import Derived.Test.YtcihbmdppgpmjaaCw0_2
import Derived.Test.YtcihbmdppgpmjaaCw0_3
set_option linter.unusedVariables false
set_option linter.unusedSimpArgs false
set_option linter.unnecessarySimpa false
set_option maxRecDepth 100000
set_option maxHeartbeats 8000000
namespace Go.Proofs.Ytcihbmdppgpmjaa.D
open Go.RowKit
theorem c_s_l11Number (p0 : Int × (List Bool) × (List (List Int))) (p1 : List Int) (p2 : List Bool) (r : Int × (List Bool) × (List (List Int))) (hm : m_s_l11Number p0 p1 p2 = some r) {I : Hp} {w0 : World} (va0 : Value) (va1 : Value) (va2 : Value) (va3 : Value) (ra0 : (rSlice 4 rBool).rd I [va0] p0.2.1) (ra1 : (rSlice 34 (rSlice 3 rInt)).rd I [va1] p0.2.2) (ra2 : (rSlice 3 rInt).rd I [va2] p1) (ra3 : (rSlice 4 rBool).rd I [va3] p2) : Con Try.prog 47 #[.agg #[.int .i64 p0.1, va0, va1], va2, va3] I w0 [] (fun v => ∃ h0 h1 : Value, v = .agg #[.int .i64 r.1, h0, h1]) (fun v => [Ch.own (rSlice 4 rBool) [vg v [1]] r.2.1, Ch.own (rSlice 34 (rSlice 3 rInt)) [vg v [2]] r.2.2]) := by
  refine con_of_wp (n := 107) [(0, .agg #[.int .i64 p0.1, va0, va1]), (1, va2), (2, va3)] Try.func47 rfl rfl (Nat.le_of_ble_eq_true rfl) (args_all ⟨rfl, rfl, rfl, trivial⟩) (fun F w a ha hs => ?_) (fun v => ⟨dp_own (dp_slice dp_bool), dp_own (dp_slice (dp_slice dp_int)), trivial⟩)
  unfold m_s_l11Number at hm
  refine wp_seq (wp_region_lit (rn ha hs (sop (opT_box (u := .agg #[.int .i64 p0.1, va0, va1]) (l := [.int .i64 p0.1, va0, va1]) rfl rfl rfl) (List.Perm.refl _) rfl rfl ?_)))
  rintro _ a1 w1 ⟨g1, rfl⟩ A1 (S1 : St I w0 w1 [Ch.blk g1 [.int .i64 p0.1, va0, va1] 27, F])
  clear ha hs a w
  refine rn A1 S1 (sop (opT_alloc (l := [.int .i64 0, .slice none 0 0, .slice none 0 0]) tz27 rfl rfl) (List.Perm.refl _) rfl rfl ?_)
  rintro _ a2 w2 ⟨g2, rfl⟩ A2 (S2 : St I w0 w2 [Ch.blk g2 [.int .i64 0, .slice none 0 0, .slice none 0 0] 27, Ch.blk g1 [.int .i64 p0.1, va0, va1] 27, F])
  clear A1 S1 a1 w1
  replace A2 := A2.pk (L' := [(1, va2), (2, va3), (3, .pointer (some ⟨g1, 0, none⟩)), (6, .pointer (some ⟨g2, 0, none⟩))]) rfl
  refine wpList_nil (nrm (wp_seq (wp_seq (wp_region_lit (rn A2 S2 (sv (opT_move (v := va3) rfl rfl) rfl rfl (sv (opT_field_addr (g := g1) (b := 0) tf27_0 rfl rfl) rfl rfl (sop (opT_load_blk (g := g1) (off := 0) (E := 27) (l := [.int .i64 p0.1, va0, va1]) (d := [.int .i64 p0.1]) (u := .int .i64 p0.1) ti3 rfl rfl rfl rfl rfl rfl) (perm_front (i := 1) rfl) rfl rfl ?_))))))))
  rintro u a3 w3 hf A3 (S3 : St I w0 w3 [Ch.blk g1 [.int .i64 p0.1, va0, va1] 27, Ch.blk g2 [.int .i64 0, .slice none 0 0, .slice none 0 0] 27, F])
  obtain rfl := Eq.symm hf
  clear A2 S2 a2 w2
  obtain ⟨x1, e1, hm⟩ := bind_some hm
  refine rn A3 S3 (sv (opT_index_hd (xs := p2) (i := p0.1) (n := 1) (Hd.of_rd ra3) Try.underlying22 ti4 rfl rfl rfl (getI_in e1)) rfl rfl (so0 (opT_load_el (S := rBool) (xs := p2) (a := x1) (i := p0.1) (k := 1) (off := 0) (f := fun (x : Bool) => x) ra3 e1 Fld.self ti4 rfl rfl rfl rfl rfl) rfl rfl ?_))
  rintro u a4 w4 hf A4 S4
  obtain rfl := lds_one hf
  clear A3 S3 a3 w3
  refine rn A4 S4 (sv (opT_not (b := x1) rfl rfl) rfl rfl (enR (L' := [(1, va2), (2, va3), (3, .pointer (some ⟨g1, 0, none⟩)), (6, .pointer (some ⟨g2, 0, none⟩)), (20, .bool (!x1))]) rfl ?_))
  clear A4 S4 a4 w4;intro a5 w5 A5 S5
  refine nrm ?_
  rcases two (x1) with hb1 | hb1
  · replace hm := ifFe hb1 hm
    refine cnd_true (b := !x1) A5 rfl rfl (notT hb1) ?_
    refine wp_seq (wp_region_lit ?_)
    obtain ⟨r1, e2, hm⟩ := bind_some hm
    refine rn A5 S5 (sop (opT_call (args := #[]) (first := #[]) (captured := #[]) en93 rfl rfl rfl (c_s_l11Nothing  _ e2  )) (List.Perm.refl _) rfl rfl ?_)
    rintro u a6 w6 ⟨v1, v2, rfl⟩ A6 (S6 : St I w0 w6 [Ch.own (rSlice 4 rBool) [v1] r1.2.1, Ch.own (rSlice 34 (rSlice 3 rInt)) [v2] r1.2.2, Ch.blk g1 [.int .i64 p0.1, va0, va1] 27, Ch.blk g2 [.int .i64 0, .slice none 0 0, .slice none 0 0] 27, F])
    clear A5 S5 a5 w5
    refine rn A6 S6 (sop (opT_store_blk (g := g2) (off := 0) (l := [.int .i64 0, .slice none 0 0, .slice none 0 0]) (d := [.int .i64 r1.1, v1, v2]) (E := 27) (u := .agg #[.int .i64 r1.1, v1, v2]) ti27 rfl rfl rfl rfl rfl (allC rfl (allC (Hd.one (St.hd S6 0 rfl).1) (allC (Hd.one (St.hd S6 1 rfl).1) allN))) (Nat.le_of_ble_eq_true rfl)) (perm_front (i := 3) rfl) rfl rfl ?_)
    rintro _ a7 w7 - A7 (S7 : St I w0 w7 [Ch.blk g2 [.int .i64 r1.1, v1, v2] 27, Ch.own (rSlice 4 rBool) [v1] r1.2.1, Ch.own (rSlice 34 (rSlice 3 rInt)) [v2] r1.2.2, Ch.blk g1 [.int .i64 p0.1, va0, va1] 27, F])
    clear A6 S6 a6 w6
    replace A7 := A7.pk (L' := [(6, .pointer (some ⟨g2, 0, none⟩))]) rfl
    refine wpList_nil (nrm (wp_ret (thenR ?_)))
    obtain rfl := Option.some.inj hm
    exact ret_1 A7 rfl (res_cell (g := g2) A7 rfl S7 0 rfl ti27 rfl) ⟨_, rfl, ⟨_, _, rfl⟩, _, Hp.le.rfl, St.sel (S7) 5 [1, 2, 4] rfl rfl⟩
  replace hm := ifTe hb1 hm
  refine cnd_false (b := !x1) A5 rfl rfl (notF hb1) ?_
  refine wp_skip (nrm (wp_seq (wp_region_lit (rn A5 S5 (sv (opT_build (zl := [.int .i64 0, .slice none 0 0, .slice none 0 0]) (r := [.int .i64 0, .slice none 0 0, .slice none 0 0]) [] tb27 tz27 rfl rfl trivial rfl) rfl rfl (sop (opT_alloc (l := [.int .i64 0, .slice none 0 0, .slice none 0 0]) tz27 rfl rfl) (List.Perm.refl _) rfl rfl ?_))))))
  rintro _ a8 w8 ⟨g3, rfl⟩ A8 (S8 : St I w0 w8 [Ch.blk g3 [.int .i64 0, .slice none 0 0, .slice none 0 0] 27, Ch.blk g1 [.int .i64 p0.1, va0, va1] 27, Ch.blk g2 [.int .i64 0, .slice none 0 0, .slice none 0 0] 27, F])
  clear A5 S5 a5 w5
  refine rn A8 S8 (sop (opT_store_blk (g := g3) (off := 0) (l := [.int .i64 0, .slice none 0 0, .slice none 0 0]) (d := [.int .i64 0, .slice none 0 0, .slice none 0 0]) (E := 27) (u := .agg #[.int .i64 0, .slice none 0 0, .slice none 0 0]) ti27 rfl rfl rfl rfl rfl (allC rfl (allC rfl (allC rfl allN))) (Nat.le_of_ble_eq_true rfl)) (perm_front (i := 0) rfl) rfl rfl ?_)
  rintro _ a9 w9 - A9 (S9 : St I w0 w9 [Ch.blk g3 [.int .i64 0, .slice none 0 0, .slice none 0 0] 27, Ch.blk g1 [.int .i64 p0.1, va0, va1] 27, Ch.blk g2 [.int .i64 0, .slice none 0 0, .slice none 0 0] 27, F])
  clear A8 S8 a8 w8
  replace A9 := A9.pk (L' := [(1, va2), (2, va3), (3, .pointer (some ⟨g1, 0, none⟩)), (6, .pointer (some ⟨g2, 0, none⟩)), (7, .pointer (some ⟨g3, 0, none⟩))]) rfl
  refine wpList_nil (nrm (wp_seq (wp_region_lit (rn A9 S9 (sv (opT_move (v := va2) rfl rfl) rfl rfl (sv (opT_field_addr (g := g1) (b := 0) tf27_0 rfl rfl) rfl rfl (sop (opT_load_blk (g := g1) (off := 0) (E := 27) (l := [.int .i64 p0.1, va0, va1]) (d := [.int .i64 p0.1]) (u := .int .i64 p0.1) ti3 rfl rfl rfl rfl rfl rfl) (perm_front (i := 1) rfl) rfl rfl ?_)))))))
  rintro u a10 w10 hf A10 (S10 : St I w0 w10 [Ch.blk g1 [.int .i64 p0.1, va0, va1] 27, Ch.blk g3 [.int .i64 0, .slice none 0 0, .slice none 0 0] 27, Ch.blk g2 [.int .i64 0, .slice none 0 0, .slice none 0 0] 27, F])
  obtain rfl := Eq.symm hf
  clear A9 S9 a9 w9
  obtain ⟨x2, e3, hm⟩ := bind_some hm
  refine rn A10 S10 (sv (opT_index_hd (xs := p1) (i := p0.1) (n := 1) (Hd.of_rd ra2) Try.underlying34 ti3 rfl rfl rfl (getI_in e3)) rfl rfl (so0 (opT_load_el (S := rInt) (xs := p1) (a := x2) (i := p0.1) (k := 1) (off := 0) (f := fun (x : Int) => x) ra2 e3 Fld.self ti3 rfl rfl rfl rfl rfl) rfl rfl ?_))
  rintro u a11 w11 hf A11 S11
  obtain rfl := lds_one hf
  clear A10 S10 a10 w10
  refine rn A11 S11 (sop (opT_lit_cpy (E := 3) (R := rInt) (S := rInt) [(.int .i64 x2, [.int .i64 x2])] [x2] cpy_int (rd_all ⟨rfl, trivial⟩) Try.underlying34 tz3 (by decide) rfl (by decide) (by decide) rfl rfl rfl rfl (us_all ⟨⟨rfl, rfl⟩, trivial⟩)) (List.Perm.refl _) rfl rfl ?_)
  rintro v3 a12 w12 - A12 (S12 : St I w0 w12 [Ch.own (rSlice 3 rInt) [v3] ([x2]), Ch.blk g1 [.int .i64 p0.1, va0, va1] 27, Ch.blk g3 [.int .i64 0, .slice none 0 0, .slice none 0 0] 27, Ch.blk g2 [.int .i64 0, .slice none 0 0, .slice none 0 0] 27, F])
  clear A11 S11 a11 w11
  refine rn A12 S12 (sv (opT_assign (v := v3) rfl rfl) rfl rfl (enR (L' := [(1, va2), (2, va3), (3, .pointer (some ⟨g1, 0, none⟩)), (6, .pointer (some ⟨g2, 0, none⟩)), (7, .pointer (some ⟨g3, 0, none⟩)), (8, v3)]) rfl ?_))
  clear A12 S12 a12 w12;intro a13 w13 A13 S13
  refine nrm (wp_seq (wp_region_lit (rn A13 S13 (sv (opT_field_addr (g := g1) (b := 0) tf27_0 rfl rfl) rfl rfl (sop (opT_load_blk (g := g1) (off := 0) (E := 27) (l := [.int .i64 p0.1, va0, va1]) (d := [.int .i64 p0.1]) (u := .int .i64 p0.1) ti3 rfl rfl rfl rfl rfl rfl) (perm_front (i := 1) rfl) rfl rfl ?_)))))
  rintro u a14 w14 hf A14 (S14 : St I w0 w14 [Ch.blk g1 [.int .i64 p0.1, va0, va1] 27, Ch.own (rSlice 3 rInt) [v3] ([x2]), Ch.blk g3 [.int .i64 0, .slice none 0 0, .slice none 0 0] 27, Ch.blk g2 [.int .i64 0, .slice none 0 0, .slice none 0 0] 27, F])
  obtain rfl := Eq.symm hf
  clear A13 S13 a13 w13
  refine rn A14 S14 (sop (opT_lit_cpy (E := 3) (R := rInt) (S := rInt) [(.int .i64 p0.1, [.int .i64 p0.1])] [p0.1] cpy_int (rd_all ⟨rfl, trivial⟩) Try.underlying34 tz3 (by decide) rfl (by decide) (by decide) rfl rfl rfl rfl (us_all ⟨⟨rfl, rfl⟩, trivial⟩)) (List.Perm.refl _) rfl rfl ?_)
  rintro v4 a15 w15 - A15 (S15 : St I w0 w15 [Ch.own (rSlice 3 rInt) [v4] ([p0.1]), Ch.blk g1 [.int .i64 p0.1, va0, va1] 27, Ch.own (rSlice 3 rInt) [v3] ([x2]), Ch.blk g3 [.int .i64 0, .slice none 0 0, .slice none 0 0] 27, Ch.blk g2 [.int .i64 0, .slice none 0 0, .slice none 0 0] 27, F])
  clear A14 S14 a14 w14
  refine rn A15 S15 (sv (opT_assign (v := v4) rfl rfl) rfl rfl (enR (L' := [(1, va2), (2, va3), (3, .pointer (some ⟨g1, 0, none⟩)), (6, .pointer (some ⟨g2, 0, none⟩)), (7, .pointer (some ⟨g3, 0, none⟩)), (8, v3), (9, v4)]) rfl ?_))
  clear A15 S15 a15 w15;intro a16 w16 A16 S16
  refine nrm (wp_seq (wp_seq (wp_region_lit (rn A16 S16 (sv (opT_assign (v := .int .i64 0) rfl rfl) rfl rfl (enR (L' := [(1, va2), (2, va3), (3, .pointer (some ⟨g1, 0, none⟩)), (6, .pointer (some ⟨g2, 0, none⟩)), (7, .pointer (some ⟨g3, 0, none⟩)), (8, v3), (9, v4), (10, .int .i64 0)]) rfl ?_))))))
  clear A16 S16 a16 w16;intro a17 w17 A17 S17
  refine nrm ?_
  obtain ⟨o11, hl3, hc9⟩ := bindL_some hm
  refine wp_cut (fun a w => ∃ s18 : (List Int) × (List Int) × Int × (List Bool) × (List (List Int)), o11 = .brk s18 ∧ ∃ v115 v116 : Value, Agr 107 a [(6, .pointer (some ⟨g2, 0, none⟩)), (7, .pointer (some ⟨g3, 0, none⟩))] ∧ St I w0 w [Ch.own (rSlice 4 rBool) [v115] s18.2.2.2.1, Ch.own (rSlice 34 (rSlice 3 rInt)) [v116] s18.2.2.2.2, Ch.blk g2 [.int .i64 0, .slice none 0 0, .slice none 0 0] 27, Ch.blk g3 [.int .i64 0, v115, v116] 27, F]) ?_ ?_
  · refine wp_block (wp_loopM (R := Int × (List Bool) × (List (List Int))) (S := (List Int) × (List Int) × Int × (List Bool) × (List (List Int))) (fun s17 a w => ∃ v117 v118 v119 v120 : Value, Agr 107 a [(1, va2), (2, va3), (3, .pointer (some ⟨g1, 0, none⟩)), (6, .pointer (some ⟨g2, 0, none⟩)), (7, .pointer (some ⟨g3, 0, none⟩)), (8, v117), (9, v118), (10, .int .i64 s17.2.2.1)] ∧ St I w0 w [Ch.own (rSlice 3 rInt) [v117] s17.1, Ch.own (rSlice 3 rInt) [v118] s17.2.1, Ch.own (rSlice 4 rBool) [v119] s17.2.2.2.1, Ch.own (rSlice 34 (rSlice 3 rInt)) [v120] s17.2.2.2.2, Ch.blk g1 [.int .i64 p0.1, va0, va1] 27, Ch.blk g2 [.int .i64 0, .slice none 0 0, .slice none 0 0] 27, Ch.blk g3 [.int .i64 0, v119, v120] 27, F]) hl3 ?_ ?_)
    · exact ⟨v3, v4, (.slice none 0 0), (.slice none 0 0), A17.pick' ⟨rfl, rfl, rfl, rfl, rfl, rfl, rfl, rfl, trivial⟩, St.sel (St.nil (St.nil S17)) 8 [4, 2, 1, 0, 3, 6, 5, 7] rfl rfl⟩
    rintro s17 o12 hm hf3 a262 w262 ⟨v117, v118, v119, v120, A262, S262⟩
    unfold m_s_l11Number_l0 at hm
    refine wp_seq (wp_seq (wp_region_lit (rn A262 S262 (sv (opT_move (v := .int .i64 s17.2.2.1) rfl rfl) rfl rfl (sv (opT_move (v := v117) rfl rfl) rfl rfl (sv (opT_len_hd (v := v117) (n := s17.1.length) (St.hd S262 0 rfl).1 Try.underlying34 rfl rfl) rfl rfl (sv (opT_cmp (k := .i64) (m := s17.2.2.1) (n := (s17.1.length : Int)) (c := decide (s17.2.2.1 < (s17.1.length : Int))) rfl rfl rfl rfl rfl) rfl rfl (enR (L' := [(1, va2), (2, va3), (3, .pointer (some ⟨g1, 0, none⟩)), (6, .pointer (some ⟨g2, 0, none⟩)), (7, .pointer (some ⟨g3, 0, none⟩)), (8, v117), (9, v118), (10, .int .i64 s17.2.2.1), (35, .bool (decide (s17.2.2.1 < (s17.1.length : Int))))]) rfl ?_))))))))
    clear A262 S262 a262 w262;intro a263 w263 A263 S263
    refine nrm ?_
    rcases two (decide (s17.2.2.1 < (s17.1.length : Int))) with hb46 | hb46
    · replace hm := ifFe hb46 hm
      refine cnd_false (b := decide (s17.2.2.1 < (s17.1.length : Int))) A263 rfl rfl hb46 ?_
      exact wp_exit (thenX (thenX (ex_in (nrm (⟨_, loopBrk hm hf3, ⟨v119, v120, A263.pick' ⟨rfl, rfl, trivial⟩, St.sel S263 8 [2, 3, 5, 6, 7] rfl rfl⟩⟩)))))
    replace hm := ifTe hb46 hm
    refine cnd_true (b := decide (s17.2.2.1 < (s17.1.length : Int))) A263 rfl rfl hb46 ?_
    refine wp_skip (nrm (wp_seq (wp_block (wp_seq (wp_region_lit (rn A263 S263 (sop (opT_lit0 (E := 3) (R := rInt) Try.underlying34 ti3 rfl) (List.Perm.refl _) rfl rfl ?_)))))))
    rintro v121 a264 w264 - A264 (S264 : St I w0 w264 [Ch.own (rSlice 3 rInt) [v121] ([] : List Int), Ch.own (rSlice 3 rInt) [v117] s17.1, Ch.own (rSlice 3 rInt) [v118] s17.2.1, Ch.own (rSlice 4 rBool) [v119] s17.2.2.2.1, Ch.own (rSlice 34 (rSlice 3 rInt)) [v120] s17.2.2.2.2, Ch.blk g1 [.int .i64 p0.1, va0, va1] 27, Ch.blk g2 [.int .i64 0, .slice none 0 0, .slice none 0 0] 27, Ch.blk g3 [.int .i64 0, v119, v120] 27, F])
    clear A263 S263 a263 w263
    refine rn A264 S264 (sv (opT_assign (v := v121) rfl rfl) rfl rfl (enR (L' := [(1, va2), (2, va3), (3, .pointer (some ⟨g1, 0, none⟩)), (6, .pointer (some ⟨g2, 0, none⟩)), (7, .pointer (some ⟨g3, 0, none⟩)), (8, v117), (9, v118), (10, .int .i64 s17.2.2.1), (11, v121)]) rfl ?_))
    clear A264 S264 a264 w264;intro a265 w265 A265 S265
    refine nrm (wp_seq (wp_seq (wp_region_lit (rn A265 S265 (sv (opT_assign (v := .int .i64 0) rfl rfl) rfl rfl (enR (L' := [(1, va2), (2, va3), (3, .pointer (some ⟨g1, 0, none⟩)), (6, .pointer (some ⟨g2, 0, none⟩)), (7, .pointer (some ⟨g3, 0, none⟩)), (8, v117), (9, v118), (10, .int .i64 s17.2.2.1), (11, v121), (12, .int .i64 0)]) rfl ?_))))))
    clear A265 S265 a265 w265;intro a266 w266 A266 S266
    refine nrm ?_
    obtain ⟨o15, hl4, hc12⟩ := bindL_some hm
    refine wp_cut (fun a w => ∃ s24 : (List Int) × (List Int) × (List Int) × Int, o15 = .brk s24 ∧ ∃ v151 v152 v153 : Value, Agr 107 a [(1, va2), (2, va3), (3, .pointer (some ⟨g1, 0, none⟩)), (6, .pointer (some ⟨g2, 0, none⟩)), (7, .pointer (some ⟨g3, 0, none⟩)), (8, v151), (9, v152), (10, .int .i64 s17.2.2.1), (11, v153)] ∧ St I w0 w [Ch.own (rSlice 3 rInt) [v151] s24.1, Ch.own (rSlice 3 rInt) [v152] s24.2.1, Ch.own (rSlice 3 rInt) [v153] s24.2.2.1, Ch.blk g1 [.int .i64 p0.1, va0, va1] 27, Ch.blk g2 [.int .i64 0, .slice none 0 0, .slice none 0 0] 27, Ch.blk g3 [.int .i64 0, v119, v120] 27, Ch.own (rSlice 4 rBool) [v119] s17.2.2.2.1, Ch.own (rSlice 34 (rSlice 3 rInt)) [v120] s17.2.2.2.2, F]) ?_ ?_
    · refine wp_block (wp_loopM (R := Int × (List Bool) × (List (List Int))) (S := (List Int) × (List Int) × (List Int) × Int) (fun s23 a w => ∃ v154 v155 v156 : Value, Agr 107 a [(1, va2), (2, va3), (3, .pointer (some ⟨g1, 0, none⟩)), (6, .pointer (some ⟨g2, 0, none⟩)), (7, .pointer (some ⟨g3, 0, none⟩)), (8, v154), (9, v155), (10, .int .i64 s17.2.2.1), (11, v156), (12, .int .i64 s23.2.2.2)] ∧ St I w0 w [Ch.own (rSlice 3 rInt) [v154] s23.1, Ch.own (rSlice 3 rInt) [v155] s23.2.1, Ch.own (rSlice 3 rInt) [v156] s23.2.2.1, Ch.blk g1 [.int .i64 p0.1, va0, va1] 27, Ch.blk g2 [.int .i64 0, .slice none 0 0, .slice none 0 0] 27, Ch.blk g3 [.int .i64 0, v119, v120] 27, Ch.own (rSlice 4 rBool) [v119] s17.2.2.2.1, Ch.own (rSlice 34 (rSlice 3 rInt)) [v120] s17.2.2.2.2, F]) hl4 ?_ ?_)
      · exact ⟨v117, v118, v121, A266.pick' ⟨rfl, rfl, rfl, rfl, rfl, rfl, rfl, rfl, rfl, rfl, trivial⟩, St.sel S266 9 [1, 2, 0, 5, 6, 7, 3, 4, 8] rfl rfl⟩
      rintro s23 o16 hm hf4 a341 w341 ⟨v154, v155, v156, A341, S341⟩
      unfold m_s_l11Number_l1 at hm
      refine wp_seq (wp_seq (wp_region_lit (rn A341 S341 (sv (opT_move (v := .int .i64 s23.2.2.2) rfl rfl) rfl rfl (sv (opT_cmp (k := .i64) (m := s23.2.2.2) (n := 9) (c := decide (s23.2.2.2 < 9)) rfl rfl rfl rfl rfl) rfl rfl (enR (L' := [(1, va2), (2, va3), (3, .pointer (some ⟨g1, 0, none⟩)), (6, .pointer (some ⟨g2, 0, none⟩)), (7, .pointer (some ⟨g3, 0, none⟩)), (8, v154), (9, v155), (10, .int .i64 s17.2.2.1), (11, v156), (12, .int .i64 s23.2.2.2), (40, .bool (decide (s23.2.2.2 < 9)))]) rfl ?_))))))
      clear A341 S341 a341 w341;intro a342 w342 A342 S342
      refine nrm ?_
      rcases two (decide (s23.2.2.2 < 9)) with hb61 | hb61
      · replace hm := ifFe hb61 hm
        refine cnd_false (b := decide (s23.2.2.2 < 9)) A342 rfl rfl hb61 ?_
        exact wp_exit (thenX (thenX (ex_in (nrm (⟨_, loopBrk hm hf4, ⟨v154, v155, v156, A342.pick' ⟨rfl, rfl, rfl, rfl, rfl, rfl, rfl, rfl, rfl, trivial⟩, St.sel S342 9 [0, 1, 2, 3, 4, 5, 6, 7, 8] rfl rfl⟩⟩)))))
      replace hm := ifTe hb61 hm
      refine cnd_true (b := decide (s23.2.2.2 < 9)) A342 rfl rfl hb61 ?_
      refine wp_skip (nrm (wp_seq (wp_block (wp_seq ?_))))
      obtain ⟨x79, e140, hm⟩ := bind_some hm
      have hd1 := (St.hd S342 1 rfl).1
      obtain ⟨x80, e141, hm⟩ := bind_some hm
      obtain ⟨x81, e142, hm⟩ := bind_some hm
      refine wp_draw (L := [(1, va2), (2, va3), (3, .pointer (some ⟨g1, 0, none⟩)), (6, .pointer (some ⟨g2, 0, none⟩)), (7, .pointer (some ⟨g3, 0, none⟩)), (8, v154), (9, v155), (10, .int .i64 s17.2.2.1), (11, v156), (12, .int .i64 s23.2.2.2), (40, .bool (decide (s23.2.2.2 < 9)))]) (C := [Ch.own (rSlice 3 rInt) [v154] s23.1, Ch.own (rSlice 3 rInt) [v156] s23.2.2.1, Ch.blk g2 [.int .i64 0, .slice none 0 0, .slice none 0 0] 27, Ch.blk g3 [.int .i64 0, v119, v120] 27, Ch.own (rSlice 4 rBool) [v119] s17.2.2.2.1, Ch.own (rSlice 34 (rSlice 3 rInt)) [v120] s17.2.2.2.2, F]) { ops := [⟨[], [], [], [0], fun | [xo0] => xo0 = .pointer (some ⟨g1, 2, none⟩) | _ => True, [(3, none)]⟩, ⟨[0], [], [], [1], fun | [xo1] => xo1 = va1 | _ => True, [(43, some 0)]⟩, ⟨[], [], [], [2], fun | [xo2] => xo2 = v155 | _ => True, [(9, none)]⟩, ⟨[], [], [], [3], fun | [xo3] => xo3 = .int .i64 s17.2.2.1 | _ => True, [(10, none)]⟩, ⟨[], [], [], [4], fun | [xo4] => xo4 = pt v155 (s17.2.2.1.toNat * 1) | _ => True, [(45, some 2), (46, some 3)]⟩, ⟨[1], [], [], [5], fun | [xo5] => xo5 = .int .i64 x79 | _ => True, [(47, some 4)]⟩, ⟨[], [], [], [6], fun | [xo6] => xo6 = pt va1 (x79.toNat * 1) | _ => True, [(44, some 1), (48, some 5)]⟩, ⟨[], [], [], [7], fun | [xo7] => (rSlice 3 rInt).rd I [xo7] x80 | _ => True, [(49, some 6)]⟩, ⟨[], [], [], [8], fun | [xo8] => xo8 = .int .i64 s23.2.2.2 | _ => True, [(12, none)]⟩, ⟨[], [], [], [9, 7], fun | [xo9, xo7] => xo9 = pt xo7 (s23.2.2.2.toNat * 1) | _ => True, [(50, some 7), (51, some 8)]⟩, ⟨[], [], [], [10], fun | [xo10] => xo10 = .int .i64 x81 | _ => True, [(52, some 9)]⟩, ⟨[], [], [], [11], fun | [xo11] => xo11 = .int .i64 x81 | _ => True, [(53, some 10)]⟩], res := [⟨[], fun _ => Ch.blk g1 [.int .i64 p0.1, va0, va1] 27⟩, ⟨[], fun _ => Ch.own (rSlice 3 rInt) [v155] s23.2.1⟩], base := [0, 1], pre := [[], [0], [], [], [2, 3], [2, 3, 4], [0, 1, 2, 3, 4, 5], [0, 1, 2, 3, 4, 5, 6], [], [0, 1, 2, 3, 4, 5, 6, 7, 8], [0, 1, 2, 3, 4, 5, 6, 7, 8, 9], [0, 1, 2, 3, 4, 5, 6, 7, 8, 9, 10]], fin := [(1, none), (2, none), (3, none), (6, none), (7, none), (8, none), (9, none), (10, none), (11, none), (12, none), (13, some 11)], left := [0, 1] } (by kernel_rfl) A342 S342 (perm_sel [3, 1, 0, 2, 4, 5, 6, 7, 8] (m := 9) rfl rfl) (by kernel_rfl) (by kernel_rfl) ?_ ?_
      · exact ⟨Plan.goal_run fun vs hf => ⟨wants_none rfl, OpT.conv (OpT.evs (ev' := evL [(3, .pointer (some ⟨g1, 0, none⟩))]) (opT_field_addr (g := g1) (b := 0) tf27_2 rfl rfl) rfl [.tmp 3] rfl ⟨rfl, trivial⟩) rfl (fun _ h => Eq.trans h rfl) (fun _ => rfl)⟩, Plan.goal_run fun vs hf => ⟨wants_none rfl, OpT.conv (OpT.evs (ev' := evL [(43, .pointer (some ⟨g1, 2, none⟩))]) (opT_load_blk (g := g1) (off := 2) (E := 27) (l := [.int .i64 p0.1, va0, va1]) (d := [va1]) (u := va1) ti23 rfl rfl rfl rfl rfl rfl) rfl [.tmp 43] rfl ⟨(hf 0 (mb rfl)), trivial⟩) rfl (fun _ h => Eq.trans h rfl) (fun _ => rfl)⟩, Plan.goal_run fun vs hf => ⟨wants_none rfl, OpT.conv (OpT.evs (ev' := evL [(9, v155)]) (opT_move (v := v155) rfl rfl) rfl [.tmp 9] rfl ⟨rfl, trivial⟩) rfl (fun _ h => Eq.trans h rfl) (fun _ => rfl)⟩, Plan.goal_run fun vs hf => ⟨wants_none rfl, OpT.conv (OpT.evs (ev' := evL [(10, .int .i64 s17.2.2.1)]) (opT_move (v := .int .i64 s17.2.2.1) rfl rfl) rfl [.tmp 10] rfl ⟨rfl, trivial⟩) rfl (fun _ h => Eq.trans h rfl) (fun _ => rfl)⟩, Plan.goal_run fun vs hf => ⟨wants_none rfl, OpT.conv (OpT.evs (ev' := evL [(45, v155), (46, .int .i64 s17.2.2.1)]) (opT_index_hd (xs := s23.2.1) (i := s17.2.2.1) (n := 1) hd1 Try.underlying34 ti3 rfl rfl rfl (getI_in e140)) rfl [.tmp 45, .tmp 46] rfl ⟨(hf 2 (mb rfl)), (hf 3 (mb rfl)), trivial⟩) rfl (fun _ h => Eq.trans h rfl) (fun _ => rfl)⟩, Plan.goal_run fun vs hf => ⟨wants_none rfl, OpT.conv (OpT.evs (ev' := evL [(47, pt v155 (s17.2.2.1.toNat * 1))]) (opT_load_own (E := 3) (R := rInt) (S := rInt) (xs := s23.2.1) (a := x79) (i := s17.2.2.1) (k := 1) (off := 0) (f := fun (x : Int) => x) sh_int e140 Fld.self ti3 rfl rfl rfl rfl rfl) rfl [.tmp 47] rfl ⟨(hf 4 (mb rfl)), trivial⟩) rfl (fun _ h => lds_one h) (fun _ => rfl)⟩, Plan.goal_run fun vs hf => ⟨wants_none rfl, OpT.conv (OpT.evs (ev' := evL [(44, va1), (48, .int .i64 x79)]) (opT_index_hd (xs := p0.2.2) (i := x79) (n := 1) (Hd.of_rd ra1) Try.underlying23 ti34 rfl rfl rfl (getI_in e141)) rfl [.tmp 44, .tmp 48] rfl ⟨(hf 1 (mb rfl)), (hf 5 (mb rfl)), trivial⟩) rfl (fun _ h => Eq.trans h rfl) (fun _ => rfl)⟩, Plan.goal_run fun vs hf => ⟨wants_none rfl, OpT.conv (OpT.evs (ev' := evL [(49, pt va1 (x79.toNat * 1))]) (opT_load_el (S := rSlice 3 rInt) (xs := p0.2.2) (a := x80) (i := x79) (k := 1) (off := 0) (f := fun (x : List Int) => x) ra1 e141 Fld.self ti34 rfl rfl rfl rfl rfl) rfl [.tmp 49] rfl ⟨(hf 6 (mb rfl)), trivial⟩) rfl (fun _ h => lds_sl h) (fun _ => rfl)⟩, Plan.goal_run fun vs hf => ⟨wants_none rfl, OpT.conv (OpT.evs (ev' := evL [(12, .int .i64 s23.2.2.2)]) (opT_move (v := .int .i64 s23.2.2.2) rfl rfl) rfl [.tmp 12] rfl ⟨rfl, trivial⟩) rfl (fun _ h => Eq.trans h rfl) (fun _ => rfl)⟩, Plan.goal_run fun vs hf => ⟨wants_none rfl, OpT.conv (OpT.evs (ev' := evL [(50, (vs 7)), (51, .int .i64 s23.2.2.2)]) (opT_index_hd (xs := x80) (i := s23.2.2.2) (n := 1) (Hd.of_rd (show (rSlice 3 rInt).rd I [(vs 7)] x80 from (hf 7 (mb rfl)))) Try.underlying34 ti3 rfl rfl rfl (getI_in e142)) rfl [.tmp 50, .tmp 51] rfl ⟨rfl, (hf 8 (mb rfl)), trivial⟩) rfl (fun _ h => Eq.trans h rfl) (fun _ => rfl)⟩, Plan.goal_run fun vs hf => ⟨wants_none rfl, OpT.conv (OpT.evs (ev' := evL [(52, pt (vs 7) (s23.2.2.2.toNat * 1))]) (opT_load_el (S := rInt) (xs := x80) (a := x81) (i := s23.2.2.2) (k := 1) (off := 0) (f := fun (x : Int) => x) (show (rSlice 3 rInt).rd I [(vs 7)] x80 from (hf 7 (mb rfl))) e142 Fld.self ti3 rfl rfl rfl rfl rfl) rfl [.tmp 52] rfl ⟨(hf 9 (mb rfl)), trivial⟩) rfl (fun _ h => lds_one h) (fun _ => rfl)⟩, Plan.goal_run fun vs hf => ⟨wants_none rfl, OpT.conv (OpT.evs (ev' := evL [(53, .int .i64 x81)]) (opT_assign (v := .int .i64 x81) rfl rfl) rfl [.tmp 53] rfl ⟨(hf 10 (mb rfl)), trivial⟩) rfl (fun _ h => Eq.trans h rfl) (fun _ => rfl)⟩, trivial⟩
      intro vs a343 w343 hf A343 S343
      clear A342 S342
      replace A343 := A343.pick' (L' := [(1, va2), (2, va3), (3, .pointer (some ⟨g1, 0, none⟩)), (6, .pointer (some ⟨g2, 0, none⟩)), (7, .pointer (some ⟨g3, 0, none⟩)), (8, v154), (9, v155), (10, .int .i64 s17.2.2.1), (11, v156), (12, .int .i64 s23.2.2.2), (13, .int .i64 x81)]) ⟨rfl, rfl, rfl, rfl, rfl, rfl, rfl, rfl, rfl, rfl, (congrArg some (show _ = _ from (hf 11 (Nat.le_of_ble_eq_true rfl)))), trivial⟩
      replace S343 : St I w0 w343 [Ch.blk g1 [.int .i64 p0.1, va0, va1] 27, Ch.own (rSlice 3 rInt) [v155] s23.2.1, Ch.own (rSlice 3 rInt) [v154] s23.1, Ch.own (rSlice 3 rInt) [v156] s23.2.2.1, Ch.blk g2 [.int .i64 0, .slice none 0 0, .slice none 0 0] 27, Ch.blk g3 [.int .i64 0, v119, v120] 27, Ch.own (rSlice 4 rBool) [v119] s17.2.2.2.1, Ch.own (rSlice 34 (rSlice 3 rInt)) [v120] s17.2.2.2.2, F] := S343
      clear hf vs
      refine nrm (wp_seq (wp_region_lit (rn A343 S343 (sv (opT_assign (v := .int .i64 (-1)) rfl rfl) rfl rfl (enR (L' := [(1, va2), (2, va3), (3, .pointer (some ⟨g1, 0, none⟩)), (6, .pointer (some ⟨g2, 0, none⟩)), (7, .pointer (some ⟨g3, 0, none⟩)), (8, v154), (9, v155), (10, .int .i64 s17.2.2.1), (11, v156), (12, .int .i64 s23.2.2.2), (13, .int .i64 x81), (14, .int .i64 (-1))]) rfl ?_)))))
      clear A343 S343 a343 w343;intro a344 w344 A344 S344
      refine nrm ?_
      obtain ⟨s25, hj9, hm⟩ := bind_some hm
      refine wp_seq_cut (fun a w => ∃ v162 v163 : Value, Agr 107 a [(1, va2), (2, va3), (3, .pointer (some ⟨g1, 0, none⟩)), (6, .pointer (some ⟨g2, 0, none⟩)), (7, .pointer (some ⟨g3, 0, none⟩)), (8, v162), (9, v163), (10, .int .i64 s17.2.2.1), (11, v156), (12, .int .i64 s23.2.2.2), (14, .int .i64 s25.2.2)] ∧ St I w0 w [Ch.own (rSlice 3 rInt) [v162] s25.1, Ch.own (rSlice 3 rInt) [v163] s25.2.1, Ch.blk g1 [.int .i64 p0.1, va0, va1] 27, Ch.blk g2 [.int .i64 0, .slice none 0 0, .slice none 0 0] 27, Ch.blk g3 [.int .i64 0, v119, v120] 27, Ch.own (rSlice 4 rBool) [v119] s17.2.2.2.1, Ch.own (rSlice 34 (rSlice 3 rInt)) [v120] s17.2.2.2.2, Ch.own (rSlice 3 rInt) [v156] s23.2.2.1, F]) ?_ ?_
      · replace hm := hj9
        refine wp_seq (wp_region_lit (rn A344 S344 (sv (opT_move (v := .int .i64 x81) rfl rfl) rfl rfl (sv (opT_cmp (k := .i64) (m := x81) (n := 0) (c := decide (x81 ≥ 0)) rfl rfl rfl rfl rfl) rfl rfl (sv (opT_move (v := .bool (decide (x81 ≥ 0))) rfl rfl) rfl rfl ?_)))))
        rcases two (decide (x81 ≥ 0)) with hb65 | hb65
        · replace hm := ifFe hb65 hm
          refine ssk (g := 2) (d := 56) (want := true) (b := decide (x81 ≥ 0)) rfl rfl rfl hb65 rfl (ssk (g := 2) (d := 56) (want := true) (b := decide (x81 ≥ 0)) rfl rfl rfl hb65 rfl (ssk (g := 2) (d := 56) (want := true) (b := decide (x81 ≥ 0)) rfl rfl rfl hb65 rfl (ssk (g := 2) (d := 56) (want := true) (b := decide (x81 ≥ 0)) rfl rfl rfl hb65 rfl (sv (opT_pick (b := decide (x81 ≥ 0)) (v := .bool false) rfl rfl (ifF hb65)) rfl rfl (enR (L' := [(1, va2), (2, va3), (3, .pointer (some ⟨g1, 0, none⟩)), (6, .pointer (some ⟨g2, 0, none⟩)), (7, .pointer (some ⟨g3, 0, none⟩)), (8, v154), (9, v155), (10, .int .i64 s17.2.2.1), (11, v156), (12, .int .i64 s23.2.2.2), (13, .int .i64 x81), (14, .int .i64 (-1)), (61, .bool false)]) rfl ?_)))))
          clear A344 S344 a344 w344;intro a360 w360 A360 S360
          refine nrm (cnd_false (b := false) A360 rfl rfl rfl ?_)
          refine wp_skip (nrm ?_)
          obtain rfl := Option.some.inj hm
          exact ⟨v154, v155, A360.pick' ⟨rfl, rfl, rfl, rfl, rfl, rfl, rfl, rfl, rfl, rfl, rfl, trivial⟩, St.sel S360 9 [2, 1, 0, 4, 5, 6, 7, 3, 8] rfl rfl⟩
        replace hm := ifTe hb65 hm
        refine svg (g := 2) (d := 56) (want := true) (b := decide (x81 ≥ 0)) rfl rfl rfl hb65 (opT_move (v := va3) rfl rfl) rfl (svg (g := 2) (d := 56) (want := true) (b := decide (x81 ≥ 0)) rfl rfl rfl hb65 (opT_move (v := .int .i64 x81) rfl rfl) rfl ?_)
        obtain ⟨x85, e149, hm⟩ := bind_some hm
        refine svg (g := 2) (d := 56) (want := true) (b := decide (x81 ≥ 0)) rfl rfl rfl hb65 (opT_index_hd (xs := p2) (i := x81) (n := 1) (Hd.of_rd ra3) Try.underlying22 ti4 rfl rfl rfl (getI_in e149)) rfl (so0g (g := 2) (d := 56) (want := true) (b := decide (x81 ≥ 0)) rfl rfl rfl hb65 (opT_load_el (S := rBool) (xs := p2) (a := x85) (i := x81) (k := 1) (off := 0) (f := fun (x : Bool) => x) ra3 e149 Fld.self ti4 rfl rfl rfl rfl rfl) rfl ?_)
        rintro u a361 w361 hf A361 S361
        obtain rfl := lds_one hf
        clear A344 S344 a344 w344
        refine rn A361 S361 (sv (opT_pick (b := decide (x81 ≥ 0)) (v := .bool x85) rfl rfl (ifT hb65)) rfl rfl (enR (L' := [(1, va2), (2, va3), (3, .pointer (some ⟨g1, 0, none⟩)), (6, .pointer (some ⟨g2, 0, none⟩)), (7, .pointer (some ⟨g3, 0, none⟩)), (8, v154), (9, v155), (10, .int .i64 s17.2.2.1), (11, v156), (12, .int .i64 s23.2.2.2), (13, .int .i64 x81), (14, .int .i64 (-1)), (61, .bool x85)]) rfl ?_))
        clear A361 S361 a361 w361;intro a362 w362 A362 S362
        refine nrm ?_
        rcases two (x85) with hb66 | hb66
        · replace hm := ifFe hb66 hm
          refine cnd_false (b := x85) A362 rfl rfl hb66 ?_
          refine wp_skip (nrm ?_)
          obtain rfl := Option.some.inj hm
          exact ⟨v154, v155, A362.pick' ⟨rfl, rfl, rfl, rfl, rfl, rfl, rfl, rfl, rfl, rfl, rfl, trivial⟩, St.sel S362 9 [2, 1, 0, 4, 5, 6, 7, 3, 8] rfl rfl⟩
        replace hm := ifTe hb66 hm
        refine cnd_true (b := x85) A362 rfl rfl hb66 ?_
        refine wp_seq (wp_region_lit (rn A362 S362 (sv (opT_move (v := v154) rfl rfl) rfl rfl (sv (opT_move (v := va2) rfl rfl) rfl rfl (sv (opT_move (v := .int .i64 x81) rfl rfl) rfl rfl ?_)))))
        obtain ⟨x86, e150, hm⟩ := bind_some hm
        refine sv (opT_index_hd (xs := p1) (i := x81) (n := 1) (Hd.of_rd ra2) Try.underlying34 ti3 rfl rfl rfl (getI_in e150)) rfl rfl (so0 (opT_load_el (S := rInt) (xs := p1) (a := x86) (i := x81) (k := 1) (off := 0) (f := fun (x : Int) => x) ra2 e150 Fld.self ti3 rfl rfl rfl rfl rfl) rfl rfl ?_)
        rintro u a363 w363 hf A363 S363
        obtain rfl := lds_one hf
        clear A362 S362 a362 w362
        obtain ⟨r28, e151, hm⟩ := bind_some hm
        refine rn A363 S363 (sop (OpT.lend (ls := [Ch.own (rSlice 3 rInt) [v154] s23.1]) (gv := fun v => []) (fun _ => trivial) fun J hJ hl hb => opT_call (args := #[v154, .int .i64 x86]) (first := #[]) (captured := #[]) en94 rfl rfl rfl (c_s_l11Find s23.1 x86 _ e151 v154 (hl _ _ _ (List.Mem.head _)))) (perm_front (i := 2) rfl) rfl rfl ?_)
        rintro u a364 w364 hf A364 (S364 : St I w0 w364 [Ch.own (rSlice 3 rInt) [v154] s23.1, Ch.blk g1 [.int .i64 p0.1, va0, va1] 27, Ch.own (rSlice 3 rInt) [v155] s23.2.1, Ch.own (rSlice 3 rInt) [v156] s23.2.2.1, Ch.blk g2 [.int .i64 0, .slice none 0 0, .slice none 0 0] 27, Ch.blk g3 [.int .i64 0, v119, v120] 27, Ch.own (rSlice 4 rBool) [v119] s17.2.2.2.1, Ch.own (rSlice 34 (rSlice 3 rInt)) [v120] s17.2.2.2.2, F])
        obtain rfl := Eq.symm hf
        clear A363 S363 a363 w363
        refine rn A364 S364 (sv (opT_assign (v := .int .i64 r28) rfl rfl) rfl rfl (enR (L' := [(1, va2), (2, va3), (3, .pointer (some ⟨g1, 0, none⟩)), (6, .pointer (some ⟨g2, 0, none⟩)), (7, .pointer (some ⟨g3, 0, none⟩)), (8, v154), (9, v155), (10, .int .i64 s17.2.2.1), (11, v156), (12, .int .i64 s23.2.2.2), (13, .int .i64 x81), (14, .int .i64 r28)]) rfl ?_))
        clear A364 S364 a364 w364;intro a365 w365 A365 S365
        refine nrm (wp_seq (wp_region_lit (rn A365 S365 (sv (opT_move (v := .int .i64 r28) rfl rfl) rfl rfl (sv (opT_cmp (k := .i64) (m := r28) (n := 0) (c := decide (r28 < 0)) rfl rfl rfl rfl rfl) rfl rfl (enR (L' := [(1, va2), (2, va3), (3, .pointer (some ⟨g1, 0, none⟩)), (6, .pointer (some ⟨g2, 0, none⟩)), (7, .pointer (some ⟨g3, 0, none⟩)), (8, v154), (9, v155), (10, .int .i64 s17.2.2.1), (11, v156), (12, .int .i64 s23.2.2.2), (13, .int .i64 x81), (14, .int .i64 r28), (69, .bool (decide (r28 < 0)))]) rfl ?_))))))
        clear A365 S365 a365 w365;intro a366 w366 A366 S366
        refine nrm ?_
        rcases two (decide (r28 < 0)) with hb67 | hb67
        · replace hm := ifFe hb67 hm
          refine cnd_false (b := decide (r28 < 0)) A366 rfl rfl hb67 ?_
          refine wp_skip (nrm ?_)
          obtain rfl := Option.some.inj hm
          exact ⟨v154, v155, A366.pick' ⟨rfl, rfl, rfl, rfl, rfl, rfl, rfl, rfl, rfl, rfl, rfl, trivial⟩, St.sel S366 9 [0, 2, 1, 4, 5, 6, 7, 3, 8] rfl rfl⟩
        replace hm := ifTe hb67 hm
        refine cnd_true (b := decide (r28 < 0)) A366 rfl rfl hb67 ?_
        refine wp_seq (wp_region_lit (rn A366 S366 (sv (opT_move (v := v154) rfl rfl) rfl rfl (sv (opT_len_hd (v := v154) (n := s23.1.length) (St.hd S366 0 rfl).1 Try.underlying34 rfl rfl) rfl rfl (sv (opT_assign (v := .int .i64 (s23.1.length : Int)) rfl rfl) rfl rfl (enR (L' := [(1, va2), (2, va3), (3, .pointer (some ⟨g1, 0, none⟩)), (6, .pointer (some ⟨g2, 0, none⟩)), (7, .pointer (some ⟨g3, 0, none⟩)), (8, v154), (9, v155), (10, .int .i64 s17.2.2.1), (11, v156), (12, .int .i64 s23.2.2.2), (13, .int .i64 x81), (14, .int .i64 (s23.1.length : Int))]) rfl ?_))))))
        clear A366 S366 a366 w366;intro a367 w367 A367 S367
        refine nrm (wp_seq (wp_region_lit (rn A367 S367 (sv (opT_move (v := v154) rfl rfl) rfl rfl (sv (opT_move (v := va2) rfl rfl) rfl rfl (sv (opT_move (v := .int .i64 x81) rfl rfl) rfl rfl ?_))))))
        obtain ⟨x87, e152, hm⟩ := bind_some hm
        refine sv (opT_index_hd (xs := p1) (i := x81) (n := 1) (Hd.of_rd ra2) Try.underlying34 ti3 rfl rfl rfl (getI_in e152)) rfl rfl (so0 (opT_load_el (S := rInt) (xs := p1) (a := x87) (i := x81) (k := 1) (off := 0) (f := fun (x : Int) => x) ra2 e152 Fld.self ti3 rfl rfl rfl rfl rfl) rfl rfl ?_)
        rintro u a368 w368 hf A368 S368
        obtain rfl := lds_one hf
        clear A367 S367 a367 w367
        refine rn A368 S368 (sop (opT_lit_cpy (E := 3) (R := rInt) (S := rInt) [(.int .i64 x87, [.int .i64 x87])] [x87] cpy_int (rd_all ⟨rfl, trivial⟩) Try.underlying34 tz3 (by decide) rfl (by decide) (by decide) rfl rfl rfl rfl (us_all ⟨⟨rfl, rfl⟩, trivial⟩)) (List.Perm.refl _) rfl rfl ?_)
        rintro v164 a369 w369 - A369 (S369 : St I w0 w369 [Ch.own (rSlice 3 rInt) [v164] ([x87]), Ch.own (rSlice 3 rInt) [v154] s23.1, Ch.blk g1 [.int .i64 p0.1, va0, va1] 27, Ch.own (rSlice 3 rInt) [v155] s23.2.1, Ch.own (rSlice 3 rInt) [v156] s23.2.2.1, Ch.blk g2 [.int .i64 0, .slice none 0 0, .slice none 0 0] 27, Ch.blk g3 [.int .i64 0, v119, v120] 27, Ch.own (rSlice 4 rBool) [v119] s17.2.2.2.1, Ch.own (rSlice 34 (rSlice 3 rInt)) [v120] s17.2.2.2.2, F])
        clear A368 S368 a368 w368
        obtain ⟨z47, e153, hm⟩ := bind_some hm
        refine rn A369 S369 (sop (opT_app (E := 3) (R := rInt) (s := v154) (u := v164) e153 Try.underlying34 tz3 rfl (by decide) rfl (by decide) rfl rfl rfl) (perm_sel [1, 0, 2, 3, 4, 5, 6, 7, 8, 9] (m := 10) rfl rfl) rfl rfl ?_)
        rintro v165 a370 w370 - A370 (S370 : St I w0 w370 [Ch.own (rSlice 3 rInt) [v165] z47, Ch.blk g1 [.int .i64 p0.1, va0, va1] 27, Ch.own (rSlice 3 rInt) [v155] s23.2.1, Ch.own (rSlice 3 rInt) [v156] s23.2.2.1, Ch.blk g2 [.int .i64 0, .slice none 0 0, .slice none 0 0] 27, Ch.blk g3 [.int .i64 0, v119, v120] 27, Ch.own (rSlice 4 rBool) [v119] s17.2.2.2.1, Ch.own (rSlice 34 (rSlice 3 rInt)) [v120] s17.2.2.2.2, F])
        clear A369 S369 a369 w369
        refine rn A370 S370 (sv (opT_assign (v := v165) rfl rfl) rfl rfl (enR (L' := [(1, va2), (2, va3), (3, .pointer (some ⟨g1, 0, none⟩)), (6, .pointer (some ⟨g2, 0, none⟩)), (7, .pointer (some ⟨g3, 0, none⟩)), (8, v165), (9, v155), (10, .int .i64 s17.2.2.1), (11, v156), (12, .int .i64 s23.2.2.2), (13, .int .i64 x81), (14, .int .i64 (s23.1.length : Int))]) rfl ?_))
        clear A370 S370 a370 w370;intro a371 w371 A371 S371
        refine nrm (wp_region_lit (rn A371 S371 (sv (opT_move (v := v155) rfl rfl) rfl rfl (sv (opT_move (v := .int .i64 x81) rfl rfl) rfl rfl (sop (opT_lit_cpy (E := 3) (R := rInt) (S := rInt) [(.int .i64 x81, [.int .i64 x81])] [x81] cpy_int (rd_all ⟨rfl, trivial⟩) Try.underlying34 tz3 (by decide) rfl (by decide) (by decide) rfl rfl rfl rfl (us_all ⟨⟨rfl, rfl⟩, trivial⟩)) (List.Perm.refl _) rfl rfl ?_)))))
        rintro v166 a372 w372 - A372 (S372 : St I w0 w372 [Ch.own (rSlice 3 rInt) [v166] ([x81]), Ch.own (rSlice 3 rInt) [v165] z47, Ch.blk g1 [.int .i64 p0.1, va0, va1] 27, Ch.own (rSlice 3 rInt) [v155] s23.2.1, Ch.own (rSlice 3 rInt) [v156] s23.2.2.1, Ch.blk g2 [.int .i64 0, .slice none 0 0, .slice none 0 0] 27, Ch.blk g3 [.int .i64 0, v119, v120] 27, Ch.own (rSlice 4 rBool) [v119] s17.2.2.2.1, Ch.own (rSlice 34 (rSlice 3 rInt)) [v120] s17.2.2.2.2, F])
        clear A371 S371 a371 w371
        obtain ⟨z48, e154, hm⟩ := bind_some hm
        refine rn A372 S372 (sop (opT_app (E := 3) (R := rInt) (s := v155) (u := v166) e154 Try.underlying34 tz3 rfl (by decide) rfl (by decide) rfl rfl rfl) (perm_sel [3, 0, 1, 2, 4, 5, 6, 7, 8, 9] (m := 10) rfl rfl) rfl rfl ?_)
        rintro v167 a373 w373 - A373 (S373 : St I w0 w373 [Ch.own (rSlice 3 rInt) [v167] z48, Ch.own (rSlice 3 rInt) [v165] z47, Ch.blk g1 [.int .i64 p0.1, va0, va1] 27, Ch.own (rSlice 3 rInt) [v156] s23.2.2.1, Ch.blk g2 [.int .i64 0, .slice none 0 0, .slice none 0 0] 27, Ch.blk g3 [.int .i64 0, v119, v120] 27, Ch.own (rSlice 4 rBool) [v119] s17.2.2.2.1, Ch.own (rSlice 34 (rSlice 3 rInt)) [v120] s17.2.2.2.2, F])
        clear A372 S372 a372 w372
        refine rn A373 S373 (sv (opT_assign (v := v167) rfl rfl) rfl rfl (enR (L' := [(1, va2), (2, va3), (3, .pointer (some ⟨g1, 0, none⟩)), (6, .pointer (some ⟨g2, 0, none⟩)), (7, .pointer (some ⟨g3, 0, none⟩)), (8, v165), (9, v167), (10, .int .i64 s17.2.2.1), (11, v156), (12, .int .i64 s23.2.2.2), (14, .int .i64 (s23.1.length : Int))]) rfl ?_))
        clear A373 S373 a373 w373;intro a374 w374 A374 S374
        refine nrm ?_
        obtain rfl := Option.some.inj hm
        exact ⟨v165, v167, A374.pick' ⟨rfl, rfl, rfl, rfl, rfl, rfl, rfl, rfl, rfl, rfl, rfl, trivial⟩, St.sel S374 9 [1, 0, 2, 4, 5, 6, 7, 3, 8] rfl rfl⟩
      rintro a375 w375 ⟨v162, v163, A375, S375⟩
      refine wp_region_lit (rn A375 S375 (sv (opT_move (v := v156) rfl rfl) rfl rfl (sv (opT_move (v := .int .i64 s25.2.2) rfl rfl) rfl rfl (sop (opT_lit_cpy (E := 3) (R := rInt) (S := rInt) [(.int .i64 s25.2.2, [.int .i64 s25.2.2])] [s25.2.2] cpy_int (rd_all ⟨rfl, trivial⟩) Try.underlying34 tz3 (by decide) rfl (by decide) (by decide) rfl rfl rfl rfl (us_all ⟨⟨rfl, rfl⟩, trivial⟩)) (List.Perm.refl _) rfl rfl ?_))))
      rintro v168 a376 w376 - A376 (S376 : St I w0 w376 [Ch.own (rSlice 3 rInt) [v168] ([s25.2.2]), Ch.own (rSlice 3 rInt) [v162] s25.1, Ch.own (rSlice 3 rInt) [v163] s25.2.1, Ch.blk g1 [.int .i64 p0.1, va0, va1] 27, Ch.blk g2 [.int .i64 0, .slice none 0 0, .slice none 0 0] 27, Ch.blk g3 [.int .i64 0, v119, v120] 27, Ch.own (rSlice 4 rBool) [v119] s17.2.2.2.1, Ch.own (rSlice 34 (rSlice 3 rInt)) [v120] s17.2.2.2.2, Ch.own (rSlice 3 rInt) [v156] s23.2.2.1, F])
      clear A375 S375 a375 w375
      obtain ⟨z49, e155, hm⟩ := bind_some hm
      refine rn A376 S376 (sop (opT_app (E := 3) (R := rInt) (s := v156) (u := v168) e155 Try.underlying34 tz3 rfl (by decide) rfl (by decide) rfl rfl rfl) (perm_sel [8, 0, 1, 2, 3, 4, 5, 6, 7, 9] (m := 10) rfl rfl) rfl rfl ?_)
      rintro v169 a377 w377 - A377 (S377 : St I w0 w377 [Ch.own (rSlice 3 rInt) [v169] z49, Ch.own (rSlice 3 rInt) [v162] s25.1, Ch.own (rSlice 3 rInt) [v163] s25.2.1, Ch.blk g1 [.int .i64 p0.1, va0, va1] 27, Ch.blk g2 [.int .i64 0, .slice none 0 0, .slice none 0 0] 27, Ch.blk g3 [.int .i64 0, v119, v120] 27, Ch.own (rSlice 4 rBool) [v119] s17.2.2.2.1, Ch.own (rSlice 34 (rSlice 3 rInt)) [v120] s17.2.2.2.2, F])
      clear A376 S376 a376 w376
      refine rn A377 S377 (sv (opT_assign (v := v169) rfl rfl) rfl rfl (enR (L' := [(1, va2), (2, va3), (3, .pointer (some ⟨g1, 0, none⟩)), (6, .pointer (some ⟨g2, 0, none⟩)), (7, .pointer (some ⟨g3, 0, none⟩)), (8, v162), (9, v163), (10, .int .i64 s17.2.2.1), (11, v169), (12, .int .i64 s23.2.2.2)]) rfl ?_))
      clear A377 S377 a377 w377;intro a378 w378 A378 S378
      refine nrmB (nrm (wp_region_lit (rn A378 S378 (sv (opT_move (v := .int .i64 s23.2.2.2) rfl rfl) rfl rfl (sv (opT_add (m := s23.2.2.2) (n := 1) rfl rfl rfl) rfl rfl (sv (opT_assign (v := .int .i64 (IntKind.i64.wrap (s23.2.2.2 + 1))) rfl rfl) rfl rfl (enR (L' := [(1, va2), (2, va3), (3, .pointer (some ⟨g1, 0, none⟩)), (6, .pointer (some ⟨g2, 0, none⟩)), (7, .pointer (some ⟨g3, 0, none⟩)), (8, v162), (9, v163), (10, .int .i64 s17.2.2.1), (11, v169), (12, .int .i64 (IntKind.i64.wrap (s23.2.2.2 + 1)))]) rfl ?_)))))))
      clear A378 S378 a378 w378;intro a379 w379 A379 S379
      exact nrm (⟨_, (Option.some.inj hm).symm, ⟨v162, v163, v169, A379.pick' ⟨rfl, rfl, rfl, rfl, rfl, rfl, rfl, rfl, rfl, rfl, trivial⟩, St.sel S379 9 [1, 2, 0, 3, 4, 5, 6, 7, 8] rfl rfl⟩⟩)
    rintro a380 w380 ⟨s24, ho12, v151, v152, v153, A380, S380⟩
    replace hm := loopOut ho12 hc12
    clear ho12 hc12 hl4
    refine nrm (wp_seq ?_)
    obtain ⟨x88, e156, hm⟩ := bind_some hm
    have hd2 := (St.hd S380 1 rfl).1
    obtain ⟨x89, e157, hm⟩ := bind_some hm
    obtain ⟨z50, e158, hm⟩ := bind_some hm
    refine wp_draw (L := [(1, va2), (2, va3), (3, .pointer (some ⟨g1, 0, none⟩)), (6, .pointer (some ⟨g2, 0, none⟩)), (7, .pointer (some ⟨g3, 0, none⟩)), (8, v151), (9, v152), (10, .int .i64 s17.2.2.1), (11, v153)]) (C := [Ch.own (rSlice 3 rInt) [v151] s24.1, Ch.own (rSlice 3 rInt) [v153] s24.2.2.1, Ch.blk g2 [.int .i64 0, .slice none 0 0, .slice none 0 0] 27, Ch.own (rSlice 34 (rSlice 3 rInt)) [v120] s17.2.2.2.2, F]) { ops := [⟨[], [], [], [0], fun | [xo0] => xo0 = .pointer (some ⟨g3, 1, none⟩) | _ => True, [(7, none)]⟩, ⟨[0], [], [], [1], fun | [xo1] => xo1 = v119 | _ => True, [(87, some 0)]⟩, ⟨[], [], [], [2], fun | [xo2] => xo2 = .pointer (some ⟨g1, 1, none⟩) | _ => True, [(3, none)]⟩, ⟨[1], [], [], [3], fun | [xo3] => xo3 = va0 | _ => True, [(89, some 2)]⟩, ⟨[], [], [], [4], fun | [xo4] => xo4 = v152 | _ => True, [(9, none)]⟩, ⟨[], [], [], [5], fun | [xo5] => xo5 = .int .i64 s17.2.2.1 | _ => True, [(10, none)]⟩, ⟨[], [], [], [6], fun | [xo6] => xo6 = pt v152 (s17.2.2.1.toNat * 1) | _ => True, [(91, some 4), (92, some 5)]⟩, ⟨[2], [], [], [7], fun | [xo7] => xo7 = .int .i64 x88 | _ => True, [(93, some 6)]⟩, ⟨[], [], [], [8], fun | [xo8] => xo8 = pt va0 (x88.toNat * 1) | _ => True, [(90, some 3), (94, some 7)]⟩, ⟨[], [], [], [9], fun | [xo9] => xo9 = .bool x89 | _ => True, [(95, some 8)]⟩, ⟨[], [], [4], [10], fun | [xo10] => Hd xo10 ([x89]).length | _ => True, [(96, some 9)]⟩, ⟨[], [3, 4], [5], [11], fun | [xo11] => Hd xo11 (z50).length | _ => True, [(88, some 1), (97, some 10)]⟩, ⟨[], [], [], [12], fun | [xo12] => xo12 = .pointer (some ⟨g3, 1, none⟩) | _ => True, [(7, none)]⟩, ⟨[], [0], [6], [13], fun | [xo13] => True | _ => True, [(99, some 12), (98, some 11)]⟩], res := [⟨[], fun _ => Ch.blk g3 [.int .i64 0, v119, v120] 27⟩, ⟨[], fun _ => Ch.blk g1 [.int .i64 p0.1, va0, va1] 27⟩, ⟨[], fun _ => Ch.own (rSlice 3 rInt) [v152] s24.2.1⟩, ⟨[], fun _ => Ch.own (rSlice 4 rBool) [v119] s17.2.2.2.1⟩, ⟨[10], fun | [xo10] => Ch.own (rSlice 4 rBool) [xo10] ([x89]) | _ => Ch.fr (fun _ => none) []⟩, ⟨[11], fun | [xo11] => Ch.own (rSlice 4 rBool) [xo11] z50 | _ => Ch.fr (fun _ => none) []⟩, ⟨[11], fun | [xo11] => Ch.blk g3 [.int .i64 0, xo11, v120] 27 | _ => Ch.fr (fun _ => none) []⟩], base := [0, 1, 2, 3], pre := [[], [0], [], [2], [], [], [4, 5], [4, 5, 6], [2, 3, 4, 5, 6, 7], [2, 3, 4, 5, 6, 7, 8], [2, 3, 4, 5, 6, 7, 8, 9], [0, 1, 2, 3, 4, 5, 6, 7, 8, 9, 10], [0, 1, 2, 3, 4, 5, 6, 7, 8, 9, 10, 11], [0, 1, 2, 3, 4, 5, 6, 7, 8, 9, 10, 11, 12]], fin := [(1, none), (2, none), (3, none), (6, none), (7, none), (8, none), (9, none), (10, none), (11, none)], left := [1, 2, 5, 6] } (by kernel_rfl) A380 S380 (perm_sel [5, 3, 1, 6, 0, 2, 4, 7, 8] (m := 9) rfl rfl) (by kernel_rfl) (by kernel_rfl) ?_ ?_
    · exact ⟨Plan.goal_run fun vs hf => ⟨wants_none rfl, OpT.conv (OpT.evs (ev' := evL [(7, .pointer (some ⟨g3, 0, none⟩))]) (opT_field_addr (g := g3) (b := 0) tf27_1 rfl rfl) rfl [.tmp 7] rfl ⟨rfl, trivial⟩) rfl (fun _ h => Eq.trans h rfl) (fun _ => rfl)⟩, Plan.goal_run fun vs hf => ⟨wants_none rfl, OpT.conv (OpT.evs (ev' := evL [(87, .pointer (some ⟨g3, 1, none⟩))]) (opT_load_blk (g := g3) (off := 1) (E := 27) (l := [.int .i64 0, v119, v120]) (d := [v119]) (u := v119) ti22 rfl rfl rfl rfl rfl rfl) rfl [.tmp 87] rfl ⟨(hf 0 (mb rfl)), trivial⟩) rfl (fun _ h => Eq.trans h rfl) (fun _ => rfl)⟩, Plan.goal_run fun vs hf => ⟨wants_none rfl, OpT.conv (OpT.evs (ev' := evL [(3, .pointer (some ⟨g1, 0, none⟩))]) (opT_field_addr (g := g1) (b := 0) tf27_1 rfl rfl) rfl [.tmp 3] rfl ⟨rfl, trivial⟩) rfl (fun _ h => Eq.trans h rfl) (fun _ => rfl)⟩, Plan.goal_run fun vs hf => ⟨wants_none rfl, OpT.conv (OpT.evs (ev' := evL [(89, .pointer (some ⟨g1, 1, none⟩))]) (opT_load_blk (g := g1) (off := 1) (E := 27) (l := [.int .i64 p0.1, va0, va1]) (d := [va0]) (u := va0) ti22 rfl rfl rfl rfl rfl rfl) rfl [.tmp 89] rfl ⟨(hf 2 (mb rfl)), trivial⟩) rfl (fun _ h => Eq.trans h rfl) (fun _ => rfl)⟩, Plan.goal_run fun vs hf => ⟨wants_none rfl, OpT.conv (OpT.evs (ev' := evL [(9, v152)]) (opT_move (v := v152) rfl rfl) rfl [.tmp 9] rfl ⟨rfl, trivial⟩) rfl (fun _ h => Eq.trans h rfl) (fun _ => rfl)⟩, Plan.goal_run fun vs hf => ⟨wants_none rfl, OpT.conv (OpT.evs (ev' := evL [(10, .int .i64 s17.2.2.1)]) (opT_move (v := .int .i64 s17.2.2.1) rfl rfl) rfl [.tmp 10] rfl ⟨rfl, trivial⟩) rfl (fun _ h => Eq.trans h rfl) (fun _ => rfl)⟩, Plan.goal_run fun vs hf => ⟨wants_none rfl, OpT.conv (OpT.evs (ev' := evL [(91, v152), (92, .int .i64 s17.2.2.1)]) (opT_index_hd (xs := s24.2.1) (i := s17.2.2.1) (n := 1) hd2 Try.underlying34 ti3 rfl rfl rfl (getI_in e156)) rfl [.tmp 91, .tmp 92] rfl ⟨(hf 4 (mb rfl)), (hf 5 (mb rfl)), trivial⟩) rfl (fun _ h => Eq.trans h rfl) (fun _ => rfl)⟩, Plan.goal_run fun vs hf => ⟨wants_none rfl, OpT.conv (OpT.evs (ev' := evL [(93, pt v152 (s17.2.2.1.toNat * 1))]) (opT_load_own (E := 3) (R := rInt) (S := rInt) (xs := s24.2.1) (a := x88) (i := s17.2.2.1) (k := 1) (off := 0) (f := fun (x : Int) => x) sh_int e156 Fld.self ti3 rfl rfl rfl rfl rfl) rfl [.tmp 93] rfl ⟨(hf 6 (mb rfl)), trivial⟩) rfl (fun _ h => lds_one h) (fun _ => rfl)⟩, Plan.goal_run fun vs hf => ⟨wants_none rfl, OpT.conv (OpT.evs (ev' := evL [(90, va0), (94, .int .i64 x88)]) (opT_index_hd (xs := p0.2.1) (i := x88) (n := 1) (Hd.of_rd ra0) Try.underlying22 ti4 rfl rfl rfl (getI_in e157)) rfl [.tmp 90, .tmp 94] rfl ⟨(hf 3 (mb rfl)), (hf 7 (mb rfl)), trivial⟩) rfl (fun _ h => Eq.trans h rfl) (fun _ => rfl)⟩, Plan.goal_run fun vs hf => ⟨wants_none rfl, OpT.conv (OpT.evs (ev' := evL [(95, pt va0 (x88.toNat * 1))]) (opT_load_el (S := rBool) (xs := p0.2.1) (a := x89) (i := x88) (k := 1) (off := 0) (f := fun (x : Bool) => x) ra0 e157 Fld.self ti4 rfl rfl rfl rfl rfl) rfl [.tmp 95] rfl ⟨(hf 8 (mb rfl)), trivial⟩) rfl (fun _ h => lds_one h) (fun _ => rfl)⟩, Plan.goal_run fun vs hf => ⟨wants_none rfl, OpT.conv (OpT.evs (ev' := evL [(96, .bool x89)]) (OpT.hdk (E := 4) (R := rBool) (xs := [x89]) (fun v => v) 0 (fun _ => rfl) (opT_lit_cpy (E := 4) (R := rBool) (S := rBool) [(.bool x89, [.bool x89])] [x89] cpy_bool (rd_all ⟨rfl, trivial⟩) Try.underlying22 tz4 (by decide) rfl (by decide) (by decide) rfl rfl rfl rfl (us_all ⟨⟨rfl, rfl⟩, trivial⟩))) rfl [.tmp 96] rfl ⟨(hf 9 (mb rfl)), trivial⟩) rfl (fun _ h => h.2) (fun _ => rfl)⟩, Plan.goal_run fun vs hf => ⟨wants_none rfl, OpT.conv (OpT.evs (ev' := evL [(88, v119), (97, (vs 10))]) (OpT.hdk (E := 4) (R := rBool) (xs := z50) (fun v => v) 0 (fun _ => rfl) (opT_app (E := 4) (R := rBool) (s := v119) (u := (vs 10)) e158 Try.underlying22 tz4 rfl (by decide) rfl (by decide) rfl rfl rfl)) rfl [.tmp 88, .tmp 97] rfl ⟨(hf 1 (mb rfl)), rfl, trivial⟩) rfl (fun _ h => h.2) (fun _ => rfl)⟩, Plan.goal_run fun vs hf => ⟨wants_none rfl, OpT.conv (OpT.evs (ev' := evL [(7, .pointer (some ⟨g3, 0, none⟩))]) (opT_field_addr (g := g3) (b := 0) tf27_1 rfl rfl) rfl [.tmp 7] rfl ⟨rfl, trivial⟩) rfl (fun _ h => Eq.trans h rfl) (fun _ => rfl)⟩, Plan.goal_run fun vs hf => ⟨wants_none rfl, OpT.conv (OpT.evs (ev' := evL [(99, .pointer (some ⟨g3, 1, none⟩)), (98, (vs 11))]) (opT_store_blk (g := g3) (off := 1) (l := [.int .i64 0, v119, v120]) (d := [(vs 11)]) (E := 27) (u := (vs 11)) ti22 rfl rfl rfl (Hd.cells (show Hd (vs 11) (z50).length from (hf 11 (mb rfl)))) rfl (allC (Hd.one (show Hd (vs 11) (z50).length from (hf 11 (mb rfl)))) allN) (Nat.le_of_ble_eq_true rfl)) rfl [.tmp 99, .tmp 98] rfl ⟨(hf 12 (mb rfl)), rfl, trivial⟩) rfl (fun _ _ => trivial) (fun _ => rfl)⟩, trivial⟩
    intro vs a381 w381 hf A381 S381
    clear A380 S380
    replace A381 := A381.pick' (L' := [(1, va2), (2, va3), (3, .pointer (some ⟨g1, 0, none⟩)), (6, .pointer (some ⟨g2, 0, none⟩)), (7, .pointer (some ⟨g3, 0, none⟩)), (8, v151), (9, v152), (10, .int .i64 s17.2.2.1), (11, v153)]) ⟨rfl, rfl, rfl, rfl, rfl, rfl, rfl, rfl, rfl, trivial⟩
    replace S381 : St I w0 w381 [Ch.blk g1 [.int .i64 p0.1, va0, va1] 27, Ch.own (rSlice 3 rInt) [v152] s24.2.1, Ch.own (rSlice 4 rBool) [(vs 11)] z50, Ch.blk g3 [.int .i64 0, (vs 11), v120] 27, Ch.own (rSlice 3 rInt) [v151] s24.1, Ch.own (rSlice 3 rInt) [v153] s24.2.2.1, Ch.blk g2 [.int .i64 0, .slice none 0 0, .slice none 0 0] 27, Ch.own (rSlice 34 (rSlice 3 rInt)) [v120] s17.2.2.2.2, F] := S381
    obtain ⟨v171, ea1⟩ : ∃ x, x = (vs 11) := ⟨_, rfl⟩
    try rw [← ea1] at A381
    try rw [← ea1] at S381
    clear ea1
    clear hf vs
    refine nrm (wp_region_lit (rn A381 S381 (sv (opT_field_addr (g := g3) (b := 0) tf27_2 rfl rfl) rfl rfl (sop (opT_load_blk (g := g3) (off := 2) (E := 27) (l := [.int .i64 0, v171, v120]) (d := [v120]) (u := v120) ti23 rfl rfl rfl rfl rfl rfl) (perm_front (i := 3) rfl) rfl rfl ?_))))
    rintro u a382 w382 hf A382 (S382 : St I w0 w382 [Ch.blk g3 [.int .i64 0, v171, v120] 27, Ch.blk g1 [.int .i64 p0.1, va0, va1] 27, Ch.own (rSlice 3 rInt) [v152] s24.2.1, Ch.own (rSlice 4 rBool) [v171] z50, Ch.own (rSlice 3 rInt) [v151] s24.1, Ch.own (rSlice 3 rInt) [v153] s24.2.2.1, Ch.blk g2 [.int .i64 0, .slice none 0 0, .slice none 0 0] 27, Ch.own (rSlice 34 (rSlice 3 rInt)) [v120] s17.2.2.2.2, F])
    obtain rfl := Eq.symm hf
    clear A381 S381 a381 w381
    refine rn A382 S382 (sv (opT_move (v := v153) rfl rfl) rfl rfl (sop (opT_lit (E := 34) (R := rSlice 3 rInt) [(v153, [v153])] [s24.2.2.1] Try.underlying23 tz34 (by decide) rfl (by decide) (by decide) rfl rfl rfl rfl (us_all ⟨⟨(Hd.cells (St.hd S382 5 rfl).1), rfl⟩, trivial⟩)) (perm_front (i := 5) rfl) rfl rfl ?_))
    rintro v172 a383 w383 - A383 (S383 : St I w0 w383 [Ch.own (rSlice 34 (rSlice 3 rInt)) [v172] ([s24.2.2.1]), Ch.blk g3 [.int .i64 0, v171, v120] 27, Ch.blk g1 [.int .i64 p0.1, va0, va1] 27, Ch.own (rSlice 3 rInt) [v152] s24.2.1, Ch.own (rSlice 4 rBool) [v171] z50, Ch.own (rSlice 3 rInt) [v151] s24.1, Ch.blk g2 [.int .i64 0, .slice none 0 0, .slice none 0 0] 27, Ch.own (rSlice 34 (rSlice 3 rInt)) [v120] s17.2.2.2.2, F])
    clear A382 S382 a382 w382
    obtain ⟨z51, e159, hm⟩ := bind_some hm
    refine rn A383 S383 (sop (opT_app (E := 34) (R := rSlice 3 rInt) (s := v120) (u := v172) e159 Try.underlying23 tz34 rfl (by decide) rfl (by decide) rfl rfl rfl) (perm_sel [7, 0, 1, 2, 3, 4, 5, 6, 8] (m := 9) rfl rfl) rfl rfl ?_)
    rintro v173 a384 w384 - A384 (S384 : St I w0 w384 [Ch.own (rSlice 34 (rSlice 3 rInt)) [v173] z51, Ch.blk g3 [.int .i64 0, v171, v120] 27, Ch.blk g1 [.int .i64 p0.1, va0, va1] 27, Ch.own (rSlice 3 rInt) [v152] s24.2.1, Ch.own (rSlice 4 rBool) [v171] z50, Ch.own (rSlice 3 rInt) [v151] s24.1, Ch.blk g2 [.int .i64 0, .slice none 0 0, .slice none 0 0] 27, F])
    clear A383 S383 a383 w383
    refine rn A384 S384 (sv (opT_field_addr (g := g3) (b := 0) tf27_2 rfl rfl) rfl rfl (sop (opT_store_blk (g := g3) (off := 2) (l := [.int .i64 0, v171, v120]) (d := [v173]) (E := 27) (u := v173) ti23 rfl rfl rfl (Hd.cells (St.hd S384 0 rfl).1) rfl (allC (Hd.one (St.hd S384 0 rfl).1) allN) (Nat.le_of_ble_eq_true rfl)) (perm_front (i := 1) rfl) rfl rfl ?_))
    rintro _ a385 w385 - A385 (S385 : St I w0 w385 [Ch.blk g3 [.int .i64 0, v171, v173] 27, Ch.own (rSlice 34 (rSlice 3 rInt)) [v173] z51, Ch.blk g1 [.int .i64 p0.1, va0, va1] 27, Ch.own (rSlice 3 rInt) [v152] s24.2.1, Ch.own (rSlice 4 rBool) [v171] z50, Ch.own (rSlice 3 rInt) [v151] s24.1, Ch.blk g2 [.int .i64 0, .slice none 0 0, .slice none 0 0] 27, F])
    clear A384 S384 a384 w384
    replace A385 := A385.pk (L' := [(1, va2), (2, va3), (3, .pointer (some ⟨g1, 0, none⟩)), (6, .pointer (some ⟨g2, 0, none⟩)), (7, .pointer (some ⟨g3, 0, none⟩)), (8, v151), (9, v152), (10, .int .i64 s17.2.2.1)]) rfl
    refine wpList_nil (nrmB (nrm (wp_region_lit (rn A385 S385 (sv (opT_move (v := .int .i64 s17.2.2.1) rfl rfl) rfl rfl (sv (opT_add (m := s17.2.2.1) (n := 1) rfl rfl rfl) rfl rfl (sv (opT_assign (v := .int .i64 (IntKind.i64.wrap (s17.2.2.1 + 1))) rfl rfl) rfl rfl (enR (L' := [(1, va2), (2, va3), (3, .pointer (some ⟨g1, 0, none⟩)), (6, .pointer (some ⟨g2, 0, none⟩)), (7, .pointer (some ⟨g3, 0, none⟩)), (8, v151), (9, v152), (10, .int .i64 (IntKind.i64.wrap (s17.2.2.1 + 1)))]) rfl ?_))))))))
    clear A385 S385 a385 w385;intro a386 w386 A386 S386
    exact nrm (⟨_, (Option.some.inj hm).symm, ⟨v151, v152, v171, v173, A386.pick' ⟨rfl, rfl, rfl, rfl, rfl, rfl, rfl, rfl, trivial⟩, St.sel S386 8 [5, 3, 4, 1, 2, 6, 0, 7] rfl rfl⟩⟩)
  rintro a387 w387 ⟨s18, ho13, v115, v116, A387, S387⟩
  replace hm := loopOut ho13 hc9
  clear ho13 hc9 hl3
  refine nrm (wp_seq (wp_region_lit (rn A387 S387 (sop (opT_load_blk (g := g3) (off := 0) (E := 27) (l := [.int .i64 0, v115, v116]) (d := [.int .i64 0, v115, v116]) (u := .agg #[.int .i64 0, v115, v116]) ti27 rfl rfl rfl rfl rfl rfl) (perm_front (i := 3) rfl) rfl rfl ?_))))
  rintro u a388 w388 hf A388 (S388 : St I w0 w388 [Ch.blk g3 [.int .i64 0, v115, v116] 27, Ch.own (rSlice 4 rBool) [v115] s18.2.2.2.1, Ch.own (rSlice 34 (rSlice 3 rInt)) [v116] s18.2.2.2.2, Ch.blk g2 [.int .i64 0, .slice none 0 0, .slice none 0 0] 27, F])
  obtain rfl := Eq.symm hf
  clear A387 S387 a387 w387
  refine rn A388 S388 (sop (opT_store_blk (g := g2) (off := 0) (l := [.int .i64 0, .slice none 0 0, .slice none 0 0]) (d := [.int .i64 0, v115, v116]) (E := 27) (u := .agg #[.int .i64 0, v115, v116]) ti27 rfl rfl rfl rfl rfl (allC rfl (allC (Hd.one (St.hd S388 1 rfl).1) (allC (Hd.one (St.hd S388 2 rfl).1) allN))) (Nat.le_of_ble_eq_true rfl)) (perm_front (i := 3) rfl) rfl rfl ?_)
  rintro _ a389 w389 - A389 (S389 : St I w0 w389 [Ch.blk g2 [.int .i64 0, v115, v116] 27, Ch.blk g3 [.int .i64 0, v115, v116] 27, Ch.own (rSlice 4 rBool) [v115] s18.2.2.2.1, Ch.own (rSlice 34 (rSlice 3 rInt)) [v116] s18.2.2.2.2, F])
  clear A388 S388 a388 w388
  replace A389 := A389.pk (L' := [(6, .pointer (some ⟨g2, 0, none⟩))]) rfl
  refine wpList_nil (nrm (wp_ret ?_))
  obtain rfl := Option.some.inj hm
  exact ret_1 A389 rfl (res_cell (g := g2) A389 rfl S389 0 rfl ti27 rfl) ⟨_, rfl, ⟨_, _, rfl⟩, _, Hp.le.rfl, St.sel (S389) 5 [2, 3, 4] rfl rfl⟩
theorem c_i_combine_1 (p0s : Int × Int) (q0 : Bool → Bool → Option Bool) (q1 : Int × (List Bool) × (List (List Int))) (q2 : Int × (List Bool) × (List (List Int))) (r : Bool) (hm : m_i_combine_1 p0s q0 q1 q2 = some r) {I : Hp} {w0 : World} (g0_0 : Nat) (va1 : Value) (g0_1 : Nat) (va3 : Value) (va4 : Value) (g0_2 : Nat) (va6 : Value) (va7 : Value) (rb0 : I g0_0 = some (.cells #[va1] 100 (0, 0))) (ra1 : fn100 w0 I va1 q0) (rb1 : I g0_1 = some (.cells #[.int .i64 q1.1, va3, va4] 27 (0, 0))) (ra3 : (rSlice 4 rBool).rd I [va3] q1.2.1) (ra4 : (rSlice 34 (rSlice 3 rInt)).rd I [va4] q1.2.2) (rb2 : I g0_2 = some (.cells #[.int .i64 q2.1, va6, va7] 27 (0, 0))) (ra6 : (rSlice 4 rBool).rd I [va6] q2.2.1) (ra7 : (rSlice 34 (rSlice 3 rInt)).rd I [va7] q2.2.2) : Con Try.prog 125 #[.agg #[.int .i64 p0s.1, .int .i64 p0s.2], .pointer (some ⟨g0_0, 0, none⟩), .pointer (some ⟨g0_1, 0, none⟩), .pointer (some ⟨g0_2, 0, none⟩)] I w0 [] (fun v => v = .bool r) (fun v => []) := by
  refine con_of_wp (n := 16) [(0, .agg #[.int .i64 p0s.1, .int .i64 p0s.2]), (1, .pointer (some ⟨g0_0, 0, none⟩)), (2, .pointer (some ⟨g0_1, 0, none⟩)), (3, .pointer (some ⟨g0_2, 0, none⟩))] Try.func125 rfl rfl (Nat.le_of_ble_eq_true rfl) (args_all ⟨rfl, rfl, rfl, rfl, trivial⟩) (fun F w a ha hs => ?_) (fun v => trivial)
  unfold m_i_combine_1 at hm
  refine wp_seq (wp_region_lit (rn ha hs (sop (opT_box (u := .agg #[.int .i64 p0s.1, .int .i64 p0s.2]) (l := [.int .i64 p0s.1, .int .i64 p0s.2]) rfl rfl rfl) (List.Perm.refl _) rfl rfl ?_)))
  rintro _ a1 w1 ⟨g1, rfl⟩ A1 (S1 : St I w0 w1 [Ch.blk g1 [.int .i64 p0s.1, .int .i64 p0s.2] 137, F])
  clear ha hs a w
  refine rn A1 S1 (sv (opT_assign (v := .bool false) rfl rfl) rfl rfl (enR (L' := [(1, .pointer (some ⟨g0_0, 0, none⟩)), (2, .pointer (some ⟨g0_1, 0, none⟩)), (3, .pointer (some ⟨g0_2, 0, none⟩)), (4, .pointer (some ⟨g1, 0, none⟩))]) rfl ?_))
  clear A1 S1 a1 w1;intro a2 w2 A2 S2
  refine nrm (wp_seq ?_)
  obtain ⟨r1, e1, hm⟩ := bind_some hm
  obtain ⟨r2, e2, hm⟩ := bind_some hm
  obtain ⟨r3, e3, hm⟩ := bind_some hm
  refine wp_draw (L := [(1, .pointer (some ⟨g0_0, 0, none⟩)), (2, .pointer (some ⟨g0_1, 0, none⟩)), (3, .pointer (some ⟨g0_2, 0, none⟩)), (4, .pointer (some ⟨g1, 0, none⟩))]) (C := [F]) { ops := [⟨[], [], [], [0], fun | [xo0] => xo0 = va1 | _ => True, [(1, none)]⟩, ⟨[], [], [], [1], fun | [xo1] => xo1 = .agg #[.int .i64 q1.1, va3, va4] | _ => True, [(2, none)]⟩, ⟨[], [], [], [2], fun | [xo2] => xo2 = .pointer (some ⟨g1, 0, none⟩) | _ => True, [(4, none)]⟩, ⟨[0], [], [], [3], fun | [xo3] => xo3 = .int .i64 p0s.1 | _ => True, [(8, some 2)]⟩, ⟨[], [], [], [4], fun | [xo4] => xo4 = .bool r1 | _ => True, [(7, some 1), (9, some 3)]⟩, ⟨[], [], [], [5], fun | [xo5] => xo5 = .agg #[.int .i64 q2.1, va6, va7] | _ => True, [(3, none)]⟩, ⟨[], [], [], [6], fun | [xo6] => xo6 = .pointer (some ⟨g1, 1, none⟩) | _ => True, [(4, none)]⟩, ⟨[0], [], [], [7], fun | [xo7] => xo7 = .int .i64 p0s.2 | _ => True, [(12, some 6)]⟩, ⟨[], [], [], [8], fun | [xo8] => xo8 = .bool r2 | _ => True, [(11, some 5), (13, some 7)]⟩, ⟨[], [], [], [9], fun | [xo9] => xo9 = .bool r3 | _ => True, [(6, some 0), (10, some 4), (14, some 8)]⟩, ⟨[], [], [], [10], fun | [xo10] => xo10 = .bool r3 | _ => True, [(15, some 9)]⟩], res := [⟨[], fun _ => Ch.blk g1 [.int .i64 p0s.1, .int .i64 p0s.2] 137⟩], base := [0], pre := [[], [], [], [2], [1, 2, 3], [], [], [6], [1, 2, 3, 4, 5, 6, 7], [0, 1, 2, 3, 4, 5, 6, 7, 8], [0, 1, 2, 3, 4, 5, 6, 7, 8, 9]], fin := [(5, some 10)], left := [0] } (by kernel_rfl) A2 S2 (perm_sel [0, 1] (m := 2) rfl rfl) (by kernel_rfl) (by kernel_rfl) ?_ ?_
  · exact ⟨Plan.goal_run fun vs hf => ⟨wants_none rfl, OpT.conv (OpT.evs (ev' := evL [(1, .pointer (some ⟨g0_0, 0, none⟩))]) (opT_load_fro (g := g0_0) (off := 0) (l := [va1]) (d := [va1]) (u := va1) rb0 ti100 rfl rfl rfl rfl rfl rfl) rfl [.tmp 1] rfl ⟨rfl, trivial⟩) rfl (fun _ h => Eq.trans h rfl) (fun _ => rfl)⟩, Plan.goal_run fun vs hf => ⟨wants_none rfl, OpT.conv (OpT.evs (ev' := evL [(2, .pointer (some ⟨g0_1, 0, none⟩))]) (opT_load_fro (g := g0_1) (off := 0) (l := [.int .i64 q1.1, va3, va4]) (d := [.int .i64 q1.1, va3, va4]) (u := .agg #[.int .i64 q1.1, va3, va4]) rb1 ti27 rfl rfl rfl rfl rfl rfl) rfl [.tmp 2] rfl ⟨rfl, trivial⟩) rfl (fun _ h => Eq.trans h rfl) (fun _ => rfl)⟩, Plan.goal_run fun vs hf => ⟨wants_none rfl, OpT.conv (OpT.evs (ev' := evL [(4, .pointer (some ⟨g1, 0, none⟩))]) (opT_field_addr (g := g1) (b := 0) tf137_0 rfl rfl) rfl [.tmp 4] rfl ⟨rfl, trivial⟩) rfl (fun _ h => Eq.trans h rfl) (fun _ => rfl)⟩, Plan.goal_run fun vs hf => ⟨wants_none rfl, OpT.conv (OpT.evs (ev' := evL [(8, .pointer (some ⟨g1, 0, none⟩))]) (opT_load_blk (g := g1) (off := 0) (E := 137) (l := [.int .i64 p0s.1, .int .i64 p0s.2]) (d := [.int .i64 p0s.1]) (u := .int .i64 p0s.1) ti3 rfl rfl rfl rfl rfl rfl) rfl [.tmp 8] rfl ⟨(hf 2 (mb rfl)), trivial⟩) rfl (fun _ h => Eq.trans h rfl) (fun _ => rfl)⟩, Plan.goal_run fun vs hf => ⟨wants_none rfl, OpT.conv (OpT.evs (ev' := evL [(7, .agg #[.int .i64 q1.1, va3, va4]), (9, .int .i64 p0s.1)]) (opT_call (args := #[.agg #[.int .i64 q1.1, va3, va4], .int .i64 p0s.1]) (first := #[]) (captured := #[]) en99 rfl rfl rfl (c_i_Automaton_accepts (q1.1, q1.2.1, q1.2.2) p0s.1 _ e1 va3 va4 ra3 ra4)) rfl [.func 99, .tmp 7, .tmp 9] rfl ⟨rfl, (hf 1 (mb rfl)), (hf 3 (mb rfl)), trivial⟩) rfl (fun _ h => h) (fun _ => rfl)⟩, Plan.goal_run fun vs hf => ⟨wants_none rfl, OpT.conv (OpT.evs (ev' := evL [(3, .pointer (some ⟨g0_2, 0, none⟩))]) (opT_load_fro (g := g0_2) (off := 0) (l := [.int .i64 q2.1, va6, va7]) (d := [.int .i64 q2.1, va6, va7]) (u := .agg #[.int .i64 q2.1, va6, va7]) rb2 ti27 rfl rfl rfl rfl rfl rfl) rfl [.tmp 3] rfl ⟨rfl, trivial⟩) rfl (fun _ h => Eq.trans h rfl) (fun _ => rfl)⟩, Plan.goal_run fun vs hf => ⟨wants_none rfl, OpT.conv (OpT.evs (ev' := evL [(4, .pointer (some ⟨g1, 0, none⟩))]) (opT_field_addr (g := g1) (b := 0) tf137_1 rfl rfl) rfl [.tmp 4] rfl ⟨rfl, trivial⟩) rfl (fun _ h => Eq.trans h rfl) (fun _ => rfl)⟩, Plan.goal_run fun vs hf => ⟨wants_none rfl, OpT.conv (OpT.evs (ev' := evL [(12, .pointer (some ⟨g1, 1, none⟩))]) (opT_load_blk (g := g1) (off := 1) (E := 137) (l := [.int .i64 p0s.1, .int .i64 p0s.2]) (d := [.int .i64 p0s.2]) (u := .int .i64 p0s.2) ti3 rfl rfl rfl rfl rfl rfl) rfl [.tmp 12] rfl ⟨(hf 6 (mb rfl)), trivial⟩) rfl (fun _ h => Eq.trans h rfl) (fun _ => rfl)⟩, Plan.goal_run fun vs hf => ⟨wants_none rfl, OpT.conv (OpT.evs (ev' := evL [(11, .agg #[.int .i64 q2.1, va6, va7]), (13, .int .i64 p0s.2)]) (opT_call (args := #[.agg #[.int .i64 q2.1, va6, va7], .int .i64 p0s.2]) (first := #[]) (captured := #[]) en99 rfl rfl rfl (c_i_Automaton_accepts (q2.1, q2.2.1, q2.2.2) p0s.2 _ e2 va6 va7 ra6 ra7)) rfl [.func 99, .tmp 11, .tmp 13] rfl ⟨rfl, (hf 5 (mb rfl)), (hf 7 (mb rfl)), trivial⟩) rfl (fun _ h => h) (fun _ => rfl)⟩, Plan.goal_run fun vs hf => ⟨wants_none rfl, OpT.conv (OpT.evs (ev' := evL [(6, va1), (10, .bool r1), (14, .bool r2)]) (opT_call_clo (v := va1) (args := [.bool r1, .bool r2]) (ra1.2 _ Hp.le.rfl r1 r2 _ e3  ) rfl rfl rfl) rfl [.tmp 6, .tmp 10, .tmp 14] rfl ⟨(hf 0 (mb rfl)), (hf 4 (mb rfl)), (hf 8 (mb rfl)), trivial⟩) rfl (fun _ h => h) (fun _ => rfl)⟩, Plan.goal_run fun vs hf => ⟨wants_none rfl, OpT.conv (OpT.evs (ev' := evL [(15, .bool r3)]) (opT_assign (v := .bool r3) rfl rfl) rfl [.tmp 15] rfl ⟨(hf 9 (mb rfl)), trivial⟩) rfl (fun _ h => Eq.trans h rfl) (fun _ => rfl)⟩, trivial⟩
  intro vs a3 w3 hf A3 S3
  clear A2 S2
  replace A3 := A3.pick' (L' := [(5, .bool r3)]) ⟨(congrArg some (show _ = _ from (hf 10 (Nat.le_of_ble_eq_true rfl)))), trivial⟩
  replace S3 : St I w0 w3 [Ch.blk g1 [.int .i64 p0s.1, .int .i64 p0s.2] 137, F] := S3
  clear hf vs
  refine nrm (wp_ret ?_)
  obtain rfl := Option.some.inj hm
  exact ret_1 A3 rfl (res_tmp A3 rfl) ⟨_, rfl, rfl, _, Hp.le.rfl, St.sel (S3) 2 [1] rfl rfl⟩
theorem c_w_heldIntSS (p0a : List (List Int)) (p1k : Int) (r : Int) (hm : m_w_heldIntSS p0a p1k = some r) {I : Hp} {w0 : World} (va0 : Value) (ra0 : (rSlice 34 (rSlice 3 rInt)).rd I [va0] p0a) : Con Try.prog 58 #[va0, .int .i64 p1k] I w0 [] (fun v => v = .int .i64 r) (fun v => []) := by
  refine con_of_wp (n := 21) [(0, va0), (1, .int .i64 p1k)] Try.func58 rfl rfl (Nat.le_of_ble_eq_true rfl) (args_all ⟨rfl, rfl, trivial⟩) (fun F w a ha hs => ?_) (fun v => trivial)
  unfold m_w_heldIntSS at hm
  refine wp_seq (wp_region_lit (rn ha hs (sv (opT_assign (v := .int .i64 0) rfl rfl) rfl rfl (enR (L' := [(0, va0), (1, .int .i64 p1k)]) rfl ?_))))
  clear ha hs a w;intro a1 w1 A1 S1
  refine nrm (wp_seq (wp_seq (wp_region_lit (rn A1 S1 (sv (opT_assign (v := .int .i64 0) rfl rfl) rfl rfl (enR (L' := [(0, va0), (1, .int .i64 p1k), (5, .int .i64 0)]) rfl ?_))))))
  clear A1 S1 a1 w1;intro a2 w2 A2 S2
  refine nrm ?_
  obtain ⟨o1, hl1, hc1⟩ := bindL_some hm
  refine wp_cut (fun a w => ∃ s4 : Int × Int, o1 = .brk s4 ∧ Agr 21 a [(1, .int .i64 s4.1)] ∧ St I w0 w [F]) ?_ ?_
  · refine wp_block (wp_loopM (R := Int) (S := Int × Int) (fun s3 a w => Agr 21 a [(0, va0), (1, .int .i64 s3.1), (5, .int .i64 s3.2)] ∧ St I w0 w [F]) hl1 ?_ ?_)
    · exact ⟨A2.pick' ⟨rfl, rfl, rfl, trivial⟩, St.sel S2 1 [0] rfl rfl⟩
    rintro s3 o2 hm hf1 a17 w17 ⟨A17, S17⟩
    unfold m_w_heldIntSS_l0 at hm
    refine wp_seq (wp_seq (wp_region_lit (rn A17 S17 (sv (opT_move (v := .int .i64 s3.2) rfl rfl) rfl rfl (sv (opT_move (v := va0) rfl rfl) rfl rfl (sv (opT_len_hd (v := va0) (n := p0a.length) (Hd.of_rd ra0) Try.underlying23 rfl rfl) rfl rfl (sv (opT_cmp (k := .i64) (m := s3.2) (n := (p0a.length : Int)) (c := decide (s3.2 < (p0a.length : Int))) rfl rfl rfl rfl rfl) rfl rfl (enR (L' := [(0, va0), (1, .int .i64 s3.1), (5, .int .i64 s3.2), (9, .bool (decide (s3.2 < (p0a.length : Int))))]) rfl ?_))))))))
    clear A17 S17 a17 w17;intro a18 w18 A18 S18
    refine nrm ?_
    rcases two (decide (s3.2 < (p0a.length : Int))) with hb5 | hb5
    · replace hm := ifFe hb5 hm
      refine cnd_false (b := decide (s3.2 < (p0a.length : Int))) A18 rfl rfl hb5 ?_
      exact wp_exit (thenX (thenX (ex_in (nrm (⟨_, loopBrk hm hf1, ⟨A18.pick' ⟨rfl, trivial⟩, St.sel S18 1 [0] rfl rfl⟩⟩)))))
    replace hm := ifTe hb5 hm
    refine cnd_true (b := decide (s3.2 < (p0a.length : Int))) A18 rfl rfl hb5 ?_
    refine wp_skip (nrm (wp_seq (wp_block (wp_seq (wp_region_lit (rn A18 S18 (sv (opT_move (v := va0) rfl rfl) rfl rfl (sv (opT_move (v := .int .i64 s3.2) rfl rfl) rfl rfl ?_))))))))
    obtain ⟨x3, e5, hm⟩ := bind_some hm
    refine sv (opT_index_hd (xs := p0a) (i := s3.2) (n := 1) (Hd.of_rd ra0) Try.underlying23 ti34 rfl rfl rfl (getI_in e5)) rfl rfl (so0 (opT_load_el (S := rSlice 3 rInt) (xs := p0a) (a := x3) (i := s3.2) (k := 1) (off := 0) (f := fun (x : List Int) => x) ra0 e5 Fld.self ti34 rfl rfl rfl rfl rfl) rfl rfl ?_)
    rintro v3 a19 w19 hf A19 S19
    have r5 := lds_sl hf
    clear hf
    clear A18 S18 a18 w18
    refine rn A19 S19 (sv (opT_move (v := .int .i64 s3.1) rfl rfl) rfl rfl ?_)
    obtain ⟨r6, e6, hm⟩ := bind_some hm
    refine so0 (opT_call (args := #[v3, .int .i64 s3.1]) (first := #[]) (captured := #[]) en103 rfl rfl rfl (c_w_heldIntS x3 s3.1 _ e6 v3 r5)) rfl rfl ?_
    rintro u a20 w20 hf A20 S20
    obtain rfl := Eq.symm hf
    clear A19 S19 a19 w19
    refine rn A20 S20 (sv (opT_assign (v := .int .i64 r6) rfl rfl) rfl rfl (enR (L' := [(0, va0), (1, .int .i64 r6), (5, .int .i64 s3.2)]) rfl ?_))
    clear A20 S20 a20 w20;intro a21 w21 A21 S21
    refine nrm (wp_seq (wp_region_lit (rn A21 S21 (sv (opT_move (v := .int .i64 r6) rfl rfl) rfl rfl (sv (opT_cmp (k := .i64) (m := r6) (n := 0) (c := decide (r6 < 0)) rfl rfl rfl rfl rfl) rfl rfl (enR (L' := [(0, va0), (1, .int .i64 r6), (5, .int .i64 s3.2), (19, .bool (decide (r6 < 0)))]) rfl ?_))))))
    clear A21 S21 a21 w21;intro a22 w22 A22 S22
    refine nrm ?_
    rcases two (decide (r6 < 0)) with hb6 | hb6
    · replace hm := ifFe hb6 hm
      refine cnd_false (b := decide (r6 < 0)) A22 rfl rfl hb6 ?_
      refine wp_skip (nrmB (nrm (wp_region_lit (rn A22 S22 (sv (opT_move (v := .int .i64 s3.2) rfl rfl) rfl rfl (sv (opT_add (m := s3.2) (n := 1) rfl rfl rfl) rfl rfl (sv (opT_assign (v := .int .i64 (IntKind.i64.wrap (s3.2 + 1))) rfl rfl) rfl rfl (enR (L' := [(0, va0), (1, .int .i64 r6), (5, .int .i64 (IntKind.i64.wrap (s3.2 + 1)))]) rfl ?_))))))))
      clear A22 S22 a22 w22;intro a23 w23 A23 S23
      exact nrm (⟨_, (Option.some.inj hm).symm, ⟨A23.pick' ⟨rfl, rfl, rfl, trivial⟩, St.sel S23 1 [0] rfl rfl⟩⟩)
    replace hm := ifTe hb6 hm
    refine cnd_true (b := decide (r6 < 0)) A22 rfl rfl hb6 ?_
    refine wp_seq (wp_region_lit (rn A22 S22 (sv (opT_assign (v := .int .i64 (-1)) rfl rfl) rfl rfl (enR (L' := [(4, .int .i64 (-1))]) rfl ?_))))
    clear A22 S22 a22 w22;intro a24 w24 A24 S24
    refine nrm (wp_ret (blkR (thenR (thenR (blkR (thenR (thenR ?_)))))))
    replace hm := loopRet hm hf1 hc1
    obtain rfl := Option.some.inj hm
    exact ret_1 A24 rfl (res_tmp A24 rfl) ⟨_, rfl, rfl, _, Hp.le.rfl, St.sel (S24) 1 [0] rfl rfl⟩
  rintro a25 w25 ⟨s4, ho1, A25, S25⟩
  replace hm := loopOut ho1 hc1
  clear ho1 hc1 hl1
  refine nrm (wp_seq (wp_region_lit (rn A25 S25 (sv (opT_move (v := .int .i64 s4.1) rfl rfl) rfl rfl (sv (opT_assign (v := .int .i64 s4.1) rfl rfl) rfl rfl (enR (L' := [(4, .int .i64 s4.1)]) rfl ?_))))))
  clear A25 S25 a25 w25;intro a26 w26 A26 S26
  refine nrm (wp_ret ?_)
  obtain rfl := Option.some.inj hm
  exact ret_1 A26 rfl (res_tmp A26 rfl) ⟨_, rfl, rfl, _, Hp.le.rfl, St.sel (S26) 1 [0] rfl rfl⟩
theorem c_i_isLetter (p0n : Int) (r : Bool) (hm : m_i_isLetter p0n = some r) {I : Hp} {w0 : World} : Con Try.prog 149 #[.int .i64 p0n] I w0 [] (fun v => v = .bool r) (fun v => []) := by
  refine con_of_wp (n := 5) [(0, .int .i64 p0n)] Try.func149 rfl rfl (Nat.le_of_ble_eq_true rfl) (args_all ⟨rfl, trivial⟩) (fun F w a ha hs => ?_) (fun v => trivial)
  unfold m_i_isLetter at hm
  refine wp_seq (wp_region_lit (rn ha hs (sv (opT_assign (v := .bool false) rfl rfl) rfl rfl (enR (L' := [(0, .int .i64 p0n)]) rfl ?_))))
  clear ha hs a w;intro a1 w1 A1 S1
  refine nrm (wp_seq (wp_region_lit (rn A1 S1 (sv (opT_move (v := .int .i64 p0n) rfl rfl) rfl rfl ?_))))
  obtain ⟨r1, e1, hm⟩ := bind_some hm
  refine so0 (opT_call (args := #[.int .i64 p0n, .int .i64 0, .int .i64 8]) (first := #[]) (captured := #[]) en95 rfl rfl rfl (c_i_within p0n 0 8 _ e1  )) rfl rfl ?_
  rintro u a2 w2 hf A2 S2
  obtain rfl := Eq.symm hf
  clear A1 S1 a1 w1
  refine rn A2 S2 (sv (opT_assign (v := .bool r1) rfl rfl) rfl rfl (enR (L' := [(2, .bool r1)]) rfl ?_))
  clear A2 S2 a2 w2;intro a3 w3 A3 S3
  refine nrm (wp_ret ?_)
  obtain rfl := Option.some.inj hm
  exact ret_1 A3 rfl (res_tmp A3 rfl) ⟨_, rfl, rfl, _, Hp.le.rfl, St.sel (S3) 1 [0] rfl rfl⟩
end Go.Proofs.Ytcihbmdppgpmjaa.D
