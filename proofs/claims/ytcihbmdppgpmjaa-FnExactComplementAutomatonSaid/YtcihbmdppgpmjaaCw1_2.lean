/- Printed by dec.py: models of functions and the walks that show them. -/
import Derived.Test.YtcihbmdppgpmjaaCw0_0
import Derived.Test.YtcihbmdppgpmjaaCw0_1
import Derived.Test.YtcihbmdppgpmjaaCw0_2
import Derived.Test.YtcihbmdppgpmjaaCw0_3
set_option linter.unusedVariables false
set_option linter.unusedSimpArgs false
set_option linter.unnecessarySimpa false
set_option maxRecDepth 100000
set_option maxHeartbeats 8000000
namespace Go.Proofs.Ytcihbmdppgpmjaa.D
open Go.RowKit
theorem c_s_l12Classes (p0 : Int × (List Bool) × (List (List Int))) (r : List Int) (hm : m_s_l12Classes p0 = some r) {I : Hp} {w0 : World} (va0 : Value) (va1 : Value) (ra0 : (rSlice 4 rBool).rd I [va0] p0.2.1) (ra1 : (rSlice 34 (rSlice 3 rInt)).rd I [va1] p0.2.2) : Con Try.prog 105 #[.agg #[.int .i64 p0.1, va0, va1]] I w0 [] (fun v => True) (fun v => [Ch.own (rSlice 3 rInt) [v] r]) := by
  refine con_of_wp (n := 99) [(0, .agg #[.int .i64 p0.1, va0, va1])] Try.func105 rfl rfl (Nat.le_of_ble_eq_true rfl) (args_all ⟨rfl, trivial⟩) (fun F w a ha hs => ?_) (fun v => ⟨dp_own (dp_slice dp_int), trivial⟩)
  unfold m_s_l12Classes at hm
  refine wp_seq (wp_region_lit (rn ha hs (sop (opT_box (u := .agg #[.int .i64 p0.1, va0, va1]) (l := [.int .i64 p0.1, va0, va1]) rfl rfl rfl) (List.Perm.refl _) rfl rfl ?_)))
  rintro _ a1 w1 ⟨g1, rfl⟩ A1 (S1 : St I w0 w1 [Ch.blk g1 [.int .i64 p0.1, va0, va1] 27, F])
  clear ha hs a w
  refine rn A1 S1 (sv (opT_assign (v := .slice none 0 0) rfl rfl) rfl rfl (enR (L' := [(1, .pointer (some ⟨g1, 0, none⟩))]) rfl ?_))
  clear A1 S1 a1 w1;intro a2 w2 A2 S2
  refine nrm (wp_seq (wp_region_lit (rn A2 S2 (sop (opT_load_blk (g := g1) (off := 0) (E := 27) (l := [.int .i64 p0.1, va0, va1]) (d := [.int .i64 p0.1, va0, va1]) (u := .agg #[.int .i64 p0.1, va0, va1]) ti27 rfl rfl rfl rfl rfl rfl) (perm_front (i := 0) rfl) rfl rfl ?_))))
  rintro u a3 w3 hf A3 (S3 : St I w0 w3 [Ch.blk g1 [.int .i64 p0.1, va0, va1] 27, F])
  obtain rfl := Eq.symm hf
  clear A2 S2 a2 w2
  obtain ⟨r1, e1, hm⟩ := bind_some hm
  refine rn A3 S3 (sop (opT_call (args := #[.agg #[.int .i64 p0.1, va0, va1]]) (first := #[]) (captured := #[]) en48 rfl rfl rfl (c_s_l11Live (p0.1, p0.2.1, p0.2.2) _ e1 va0 va1 ra0 ra1)) (List.Perm.refl _) rfl rfl ?_)
  rintro v1 a4 w4 - A4 (S4 : St I w0 w4 [Ch.own (rSlice 4 rBool) [v1] r1, Ch.blk g1 [.int .i64 p0.1, va0, va1] 27, F])
  clear A3 S3 a3 w3
  refine rn A4 S4 (sv (opT_assign (v := v1) rfl rfl) rfl rfl (enR (L' := [(1, .pointer (some ⟨g1, 0, none⟩)), (3, v1)]) rfl ?_))
  clear A4 S4 a4 w4;intro a5 w5 A5 S5
  refine nrm (wp_seq (wp_region_lit (rn A5 S5 (sop (opT_lit0 (E := 3) (R := rInt) Try.underlying34 ti3 rfl) (List.Perm.refl _) rfl rfl ?_))))
  rintro v2 a6 w6 - A6 (S6 : St I w0 w6 [Ch.own (rSlice 3 rInt) [v2] ([] : List Int), Ch.own (rSlice 4 rBool) [v1] r1, Ch.blk g1 [.int .i64 p0.1, va0, va1] 27, F])
  clear A5 S5 a5 w5
  refine rn A6 S6 (sv (opT_assign (v := v2) rfl rfl) rfl rfl (enR (L' := [(1, .pointer (some ⟨g1, 0, none⟩)), (3, v1), (4, v2)]) rfl ?_))
  clear A6 S6 a6 w6;intro a7 w7 A7 S7
  refine nrm (wp_seq (wp_seq (wp_region_lit (rn A7 S7 (sv (opT_assign (v := .int .i64 0) rfl rfl) rfl rfl (enR (L' := [(1, .pointer (some ⟨g1, 0, none⟩)), (3, v1), (4, v2), (5, .int .i64 0)]) rfl ?_))))))
  clear A7 S7 a7 w7;intro a8 w8 A8 S8
  refine nrm ?_
  obtain ⟨o5, hl1, hc5⟩ := bindL_some hm
  refine wp_cut (fun a w => ∃ s8 : (List Int) × Int, o5 = .brk s8 ∧ ∃ v8 : Value, Agr 99 a [(1, .pointer (some ⟨g1, 0, none⟩)), (4, v8)] ∧ St I w0 w [Ch.own (rSlice 3 rInt) [v8] s8.1, Ch.blk g1 [.int .i64 p0.1, va0, va1] 27, F]) ?_ ?_
  · refine wp_block (wp_loopM (R := List Int) (S := (List Int) × Int) (fun s7 a w => ∃ v9 : Value, Agr 99 a [(1, .pointer (some ⟨g1, 0, none⟩)), (3, v1), (4, v9), (5, .int .i64 s7.2)] ∧ St I w0 w [Ch.own (rSlice 3 rInt) [v9] s7.1, Ch.blk g1 [.int .i64 p0.1, va0, va1] 27, Ch.own (rSlice 4 rBool) [v1] r1, F]) hl1 ?_ ?_)
    · exact ⟨v2, A8.pick' ⟨rfl, rfl, rfl, rfl, trivial⟩, St.sel S8 4 [0, 2, 1, 3] rfl rfl⟩
    rintro s7 o6 hm hf1 a51 w51 ⟨v9, A51, S51⟩
    unfold m_s_l12Classes_l0 at hm
    refine wp_seq (wp_seq (wp_region_lit (rn A51 S51 (sv (opT_move (v := .int .i64 s7.2) rfl rfl) rfl rfl (sv (opT_field_addr (g := g1) (b := 0) tf27_1 rfl rfl) rfl rfl (sop (opT_load_blk (g := g1) (off := 1) (E := 27) (l := [.int .i64 p0.1, va0, va1]) (d := [va0]) (u := va0) ti22 rfl rfl rfl rfl rfl rfl) (perm_front (i := 1) rfl) rfl rfl ?_))))))
    rintro u a52 w52 hf A52 (S52 : St I w0 w52 [Ch.blk g1 [.int .i64 p0.1, va0, va1] 27, Ch.own (rSlice 3 rInt) [v9] s7.1, Ch.own (rSlice 4 rBool) [v1] r1, F])
    obtain rfl := Eq.symm hf
    clear A51 S51 a51 w51
    refine rn A52 S52 (sv (opT_len_hd (v := va0) (n := p0.2.1.length) (Hd.of_rd ra0) Try.underlying22 rfl rfl) rfl rfl (sv (opT_cmp (k := .i64) (m := s7.2) (n := (p0.2.1.length : Int)) (c := decide (s7.2 < (p0.2.1.length : Int))) rfl rfl rfl rfl rfl) rfl rfl (enR (L' := [(1, .pointer (some ⟨g1, 0, none⟩)), (3, v1), (4, v9), (5, .int .i64 s7.2), (21, .bool (decide (s7.2 < (p0.2.1.length : Int))))]) rfl ?_)))
    clear A52 S52 a52 w52;intro a53 w53 A53 S53
    refine nrm ?_
    rcases two (decide (s7.2 < (p0.2.1.length : Int))) with hb11 | hb11
    · replace hm := ifFe hb11 hm
      refine cnd_false (b := decide (s7.2 < (p0.2.1.length : Int))) A53 rfl rfl hb11 ?_
      exact wp_exit (thenX (thenX (ex_in (nrm (⟨_, loopBrk hm hf1, ⟨v9, A53.pick' ⟨rfl, rfl, trivial⟩, St.sel S53 4 [1, 0, 3] rfl rfl⟩⟩)))))
    replace hm := ifTe hb11 hm
    refine cnd_true (b := decide (s7.2 < (p0.2.1.length : Int))) A53 rfl rfl hb11 ?_
    refine wp_skip (nrm (wp_seq (wp_block (wp_seq (wp_region_lit (rn A53 S53 (sv (opT_assign (v := .int .i64 0) rfl rfl) rfl rfl (enR (L' := [(1, .pointer (some ⟨g1, 0, none⟩)), (3, v1), (4, v9), (5, .int .i64 s7.2), (6, .int .i64 0)]) rfl ?_))))))))
    clear A53 S53 a53 w53;intro a54 w54 A54 S54
    refine nrm ?_
    obtain ⟨s9, hj5, hm⟩ := bind_some hm
    refine wp_seq_cut (fun a w => Agr 99 a [(1, .pointer (some ⟨g1, 0, none⟩)), (3, v1), (4, v9), (5, .int .i64 s7.2), (6, .int .i64 s9)] ∧ St I w0 w [Ch.blk g1 [.int .i64 p0.1, va0, va1] 27, Ch.own (rSlice 4 rBool) [v1] r1, Ch.own (rSlice 3 rInt) [v9] s7.1, F]) ?_ ?_
    · replace hm := hj5
      refine wp_seq (wp_region_lit (rn A54 S54 (sv (opT_field_addr (g := g1) (b := 0) tf27_1 rfl rfl) rfl rfl (sop (opT_load_blk (g := g1) (off := 1) (E := 27) (l := [.int .i64 p0.1, va0, va1]) (d := [va0]) (u := va0) ti22 rfl rfl rfl rfl rfl rfl) (perm_front (i := 0) rfl) rfl rfl ?_))))
      rintro u a58 w58 hf A58 (S58 : St I w0 w58 [Ch.blk g1 [.int .i64 p0.1, va0, va1] 27, Ch.own (rSlice 3 rInt) [v9] s7.1, Ch.own (rSlice 4 rBool) [v1] r1, F])
      obtain rfl := Eq.symm hf
      clear A54 S54 a54 w54
      refine rn A58 S58 (sv (opT_move (v := .int .i64 s7.2) rfl rfl) rfl rfl ?_)
      obtain ⟨x10, e13, hm⟩ := bind_some hm
      refine sv (opT_index_hd (xs := p0.2.1) (i := s7.2) (n := 1) (Hd.of_rd ra0) Try.underlying22 ti4 rfl rfl rfl (getI_in e13)) rfl rfl (so0 (opT_load_el (S := rBool) (xs := p0.2.1) (a := x10) (i := s7.2) (k := 1) (off := 0) (f := fun (x : Bool) => x) ra0 e13 Fld.self ti4 rfl rfl rfl rfl rfl) rfl rfl ?_)
      rintro u a59 w59 hf A59 S59
      obtain rfl := lds_one hf
      clear A58 S58 a58 w58
      replace A59 := A59.pk (L' := [(1, .pointer (some ⟨g1, 0, none⟩)), (3, v1), (4, v9), (5, .int .i64 s7.2), (6, .int .i64 0), (28, .bool x10)]) rfl
      refine wpList_nil (nrm ?_)
      rcases two (x10) with hb13 | hb13
      · replace hm := ifFe hb13 hm
        refine cnd_false (b := x10) A59 rfl rfl hb13 ?_
        refine wp_skip (nrm ?_)
        obtain rfl := Option.some.inj hm
        exact ⟨A59.pick' ⟨rfl, rfl, rfl, rfl, rfl, trivial⟩, St.sel S59 4 [0, 2, 1, 3] rfl rfl⟩
      replace hm := ifTe hb13 hm
      refine cnd_true (b := x10) A59 rfl rfl hb13 ?_
      refine wp_region_lit (rn A59 S59 (sv (opT_assign (v := .int .i64 1) rfl rfl) rfl rfl (enR (L' := [(1, .pointer (some ⟨g1, 0, none⟩)), (3, v1), (4, v9), (5, .int .i64 s7.2), (6, .int .i64 1)]) rfl ?_)))
      clear A59 S59 a59 w59;intro a60 w60 A60 S60
      refine nrm ?_
      obtain rfl := Option.some.inj hm
      exact ⟨A60.pick' ⟨rfl, rfl, rfl, rfl, rfl, trivial⟩, St.sel S60 4 [0, 2, 1, 3] rfl rfl⟩
    rintro a61 w61 ⟨A61, S61⟩
    obtain ⟨s10, hj6, hm⟩ := bind_some hm
    refine wp_seq_cut (fun a w => Agr 99 a [(1, .pointer (some ⟨g1, 0, none⟩)), (3, v1), (4, v9), (5, .int .i64 s7.2), (6, .int .i64 s10)] ∧ St I w0 w [Ch.blk g1 [.int .i64 p0.1, va0, va1] 27, Ch.own (rSlice 4 rBool) [v1] r1, Ch.own (rSlice 3 rInt) [v9] s7.1, F]) ?_ ?_
    · replace hm := hj6
      refine wp_seq (wp_region_lit (rn A61 S61 (sv (opT_move (v := v1) rfl rfl) rfl rfl (sv (opT_move (v := .int .i64 s7.2) rfl rfl) rfl rfl ?_))))
      obtain ⟨x12, e15, hm⟩ := bind_some hm
      refine sv (opT_index_hd (xs := r1) (i := s7.2) (n := 1) (St.hd S61 1 rfl).1 Try.underlying22 ti4 rfl rfl rfl (getI_in e15)) rfl rfl (sop (opT_load_own (E := 4) (R := rBool) (S := rBool) (xs := r1) (a := x12) (i := s7.2) (k := 1) (off := 0) (f := fun (x : Bool) => x) sh_bool e15 Fld.self ti4 rfl rfl rfl rfl rfl) (perm_front (i := 1) rfl) rfl rfl ?_)
      rintro u a65 w65 hf A65 (S65 : St I w0 w65 [Ch.own (rSlice 4 rBool) [v1] r1, Ch.blk g1 [.int .i64 p0.1, va0, va1] 27, Ch.own (rSlice 3 rInt) [v9] s7.1, F])
      obtain rfl := lds_one hf
      clear A61 S61 a61 w61
      refine rn A65 S65 (sv (opT_not (b := x12) rfl rfl) rfl rfl (enR (L' := [(1, .pointer (some ⟨g1, 0, none⟩)), (3, v1), (4, v9), (5, .int .i64 s7.2), (6, .int .i64 s9), (33, .bool (!x12))]) rfl ?_))
      clear A65 S65 a65 w65;intro a66 w66 A66 S66
      refine nrm ?_
      rcases two (x12) with hb15 | hb15
      · replace hm := ifFe hb15 hm
        refine cnd_true (b := !x12) A66 rfl rfl (notT hb15) ?_
        refine wp_region_lit (rn A66 S66 (sv (opT_assign (v := .int .i64 (-1)) rfl rfl) rfl rfl (enR (L' := [(1, .pointer (some ⟨g1, 0, none⟩)), (3, v1), (4, v9), (5, .int .i64 s7.2), (6, .int .i64 (-1))]) rfl ?_)))
        clear A66 S66 a66 w66;intro a67 w67 A67 S67
        refine nrm ?_
        obtain rfl := Option.some.inj hm
        exact ⟨A67.pick' ⟨rfl, rfl, rfl, rfl, rfl, trivial⟩, St.sel S67 4 [1, 0, 2, 3] rfl rfl⟩
      replace hm := ifTe hb15 hm
      refine cnd_false (b := !x12) A66 rfl rfl (notF hb15) ?_
      refine wp_skip (nrm ?_)
      obtain rfl := Option.some.inj hm
      exact ⟨A66.pick' ⟨rfl, rfl, rfl, rfl, rfl, trivial⟩, St.sel S66 4 [1, 0, 2, 3] rfl rfl⟩
    rintro a68 w68 ⟨A68, S68⟩
    refine wp_region_lit (rn A68 S68 (sv (opT_move (v := v9) rfl rfl) rfl rfl (sv (opT_move (v := .int .i64 s10) rfl rfl) rfl rfl (sop (opT_lit_cpy (E := 3) (R := rInt) (S := rInt) [(.int .i64 s10, [.int .i64 s10])] [s10] cpy_int (rd_all ⟨rfl, trivial⟩) Try.underlying34 tz3 (by decide) rfl (by decide) (by decide) rfl rfl rfl rfl (us_all ⟨⟨rfl, rfl⟩, trivial⟩)) (List.Perm.refl _) rfl rfl ?_))))
    rintro v10 a69 w69 - A69 (S69 : St I w0 w69 [Ch.own (rSlice 3 rInt) [v10] ([s10]), Ch.blk g1 [.int .i64 p0.1, va0, va1] 27, Ch.own (rSlice 4 rBool) [v1] r1, Ch.own (rSlice 3 rInt) [v9] s7.1, F])
    clear A68 S68 a68 w68
    obtain ⟨z3, e16, hm⟩ := bind_some hm
    refine rn A69 S69 (sop (opT_app (E := 3) (R := rInt) (s := v9) (u := v10) e16 Try.underlying34 tz3 rfl (by decide) rfl (by decide) rfl rfl rfl) (perm_sel [3, 0, 1, 2, 4] (m := 5) rfl rfl) rfl rfl ?_)
    rintro v11 a70 w70 - A70 (S70 : St I w0 w70 [Ch.own (rSlice 3 rInt) [v11] z3, Ch.blk g1 [.int .i64 p0.1, va0, va1] 27, Ch.own (rSlice 4 rBool) [v1] r1, F])
    clear A69 S69 a69 w69
    refine rn A70 S70 (sv (opT_assign (v := v11) rfl rfl) rfl rfl (enR (L' := [(1, .pointer (some ⟨g1, 0, none⟩)), (3, v1), (4, v11), (5, .int .i64 s7.2)]) rfl ?_))
    clear A70 S70 a70 w70;intro a71 w71 A71 S71
    refine nrmB (nrm (wp_region_lit (rn A71 S71 (sv (opT_move (v := .int .i64 s7.2) rfl rfl) rfl rfl (sv (opT_add (m := s7.2) (n := 1) rfl rfl rfl) rfl rfl (sv (opT_assign (v := .int .i64 (IntKind.i64.wrap (s7.2 + 1))) rfl rfl) rfl rfl (enR (L' := [(1, .pointer (some ⟨g1, 0, none⟩)), (3, v1), (4, v11), (5, .int .i64 (IntKind.i64.wrap (s7.2 + 1)))]) rfl ?_)))))))
    clear A71 S71 a71 w71;intro a72 w72 A72 S72
    exact nrm (⟨_, (Option.some.inj hm).symm, ⟨v11, A72.pick' ⟨rfl, rfl, rfl, rfl, trivial⟩, St.sel S72 4 [0, 1, 2, 3] rfl rfl⟩⟩)
  rintro a73 w73 ⟨s8, ho7, v8, A73, S73⟩
  replace hm := loopOut ho7 hc5
  clear ho7 hc5 hl1
  refine nrm (wp_seq (wp_seq (wp_region_lit (rn A73 S73 (sv (opT_assign (v := .int .i64 0) rfl rfl) rfl rfl (enR (L' := [(1, .pointer (some ⟨g1, 0, none⟩)), (4, v8), (7, .int .i64 0)]) rfl ?_))))))
  clear A73 S73 a73 w73;intro a74 w74 A74 S74
  refine nrm ?_
  obtain ⟨o91, hl16, hc76⟩ := bindL_some hm
  refine wp_cut (fun a w => ∃ s124 : (List Int) × Int, o91 = .brk s124 ∧ ∃ v303 : Value, Agr 99 a [(4, v303)] ∧ St I w0 w [Ch.own (rSlice 3 rInt) [v303] s124.1, F]) ?_ ?_
  · refine wp_block (wp_loopM (R := List Int) (S := (List Int) × Int) (fun s123 a w => ∃ v304 : Value, Agr 99 a [(1, .pointer (some ⟨g1, 0, none⟩)), (4, v304), (7, .int .i64 s123.2)] ∧ St I w0 w [Ch.own (rSlice 3 rInt) [v304] s123.1, Ch.blk g1 [.int .i64 p0.1, va0, va1] 27, F]) hl16 ?_ ?_)
    · exact ⟨v8, A74.pick' ⟨rfl, rfl, rfl, trivial⟩, St.sel S74 3 [0, 1, 2] rfl rfl⟩
    rintro s123 o92 hm hf16 a835 w835 ⟨v304, A835, S835⟩
    unfold m_s_l12Classes_l1 at hm
    refine wp_seq (wp_seq (wp_region_lit (rn A835 S835 (sv (opT_move (v := .int .i64 s123.2) rfl rfl) rfl rfl (sv (opT_field_addr (g := g1) (b := 0) tf27_1 rfl rfl) rfl rfl (sop (opT_load_blk (g := g1) (off := 1) (E := 27) (l := [.int .i64 p0.1, va0, va1]) (d := [va0]) (u := va0) ti22 rfl rfl rfl rfl rfl rfl) (perm_front (i := 1) rfl) rfl rfl ?_))))))
    rintro u a836 w836 hf A836 (S836 : St I w0 w836 [Ch.blk g1 [.int .i64 p0.1, va0, va1] 27, Ch.own (rSlice 3 rInt) [v304] s123.1, F])
    obtain rfl := Eq.symm hf
    clear A835 S835 a835 w835
    refine rn A836 S836 (sv (opT_len_hd (v := va0) (n := p0.2.1.length) (Hd.of_rd ra0) Try.underlying22 rfl rfl) rfl rfl (sv (opT_cmp (k := .i64) (m := s123.2) (n := (p0.2.1.length : Int)) (c := decide (s123.2 ≤ (p0.2.1.length : Int))) rfl rfl rfl rfl rfl) rfl rfl (enR (L' := [(1, .pointer (some ⟨g1, 0, none⟩)), (4, v304), (7, .int .i64 s123.2), (42, .bool (decide (s123.2 ≤ (p0.2.1.length : Int))))]) rfl ?_)))
    clear A836 S836 a836 w836;intro a837 w837 A837 S837
    refine nrm ?_
    rcases two (decide (s123.2 ≤ (p0.2.1.length : Int))) with hb170 | hb170
    · replace hm := ifFe hb170 hm
      refine cnd_false (b := decide (s123.2 ≤ (p0.2.1.length : Int))) A837 rfl rfl hb170 ?_
      exact wp_exit (thenX (thenX (ex_in (nrm (⟨_, loopBrk hm hf16, ⟨v304, A837.pick' ⟨rfl, trivial⟩, St.sel S837 3 [1, 2] rfl rfl⟩⟩)))))
    replace hm := ifTe hb170 hm
    refine cnd_true (b := decide (s123.2 ≤ (p0.2.1.length : Int))) A837 rfl rfl hb170 ?_
    refine wp_skip (nrm (wp_seq (wp_block (wp_seq (wp_region_lit (rn A837 S837 (sop (opT_lit0 (E := 34) (R := rSlice 3 rInt) Try.underlying23 ti34 rfl) (List.Perm.refl _) rfl rfl ?_)))))))
    rintro v305 a838 w838 - A838 (S838 : St I w0 w838 [Ch.own (rSlice 34 (rSlice 3 rInt)) [v305] ([] : List (List Int)), Ch.blk g1 [.int .i64 p0.1, va0, va1] 27, Ch.own (rSlice 3 rInt) [v304] s123.1, F])
    clear A837 S837 a837 w837
    refine rn A838 S838 (sv (opT_assign (v := v305) rfl rfl) rfl rfl (enR (L' := [(1, .pointer (some ⟨g1, 0, none⟩)), (4, v304), (7, .int .i64 s123.2), (8, v305)]) rfl ?_))
    clear A838 S838 a838 w838;intro a839 w839 A839 S839
    refine nrm (wp_seq (wp_region_lit (rn A839 S839 (sop (opT_lit0 (E := 3) (R := rInt) Try.underlying34 ti3 rfl) (List.Perm.refl _) rfl rfl ?_))))
    rintro v306 a840 w840 - A840 (S840 : St I w0 w840 [Ch.own (rSlice 3 rInt) [v306] ([] : List Int), Ch.own (rSlice 34 (rSlice 3 rInt)) [v305] ([] : List (List Int)), Ch.blk g1 [.int .i64 p0.1, va0, va1] 27, Ch.own (rSlice 3 rInt) [v304] s123.1, F])
    clear A839 S839 a839 w839
    refine rn A840 S840 (sv (opT_assign (v := v306) rfl rfl) rfl rfl (enR (L' := [(1, .pointer (some ⟨g1, 0, none⟩)), (4, v304), (7, .int .i64 s123.2), (8, v305), (9, v306)]) rfl ?_))
    clear A840 S840 a840 w840;intro a841 w841 A841 S841
    refine nrm (wp_seq (wp_seq (wp_region_lit (rn A841 S841 (sv (opT_assign (v := .int .i64 0) rfl rfl) rfl rfl (enR (L' := [(1, .pointer (some ⟨g1, 0, none⟩)), (4, v304), (7, .int .i64 s123.2), (8, v305), (9, v306), (10, .int .i64 0)]) rfl ?_))))))
    clear A841 S841 a841 w841;intro a842 w842 A842 S842
    refine nrm ?_
    obtain ⟨o119, hl21, hc99⟩ := bindL_some hm
    refine wp_cut (fun a w => ∃ s162 : (List (List Int)) × (List Int) × Int, o119 = .brk s162 ∧ ∃ v401 : Value, Agr 99 a [(1, .pointer (some ⟨g1, 0, none⟩)), (4, v304), (7, .int .i64 s123.2), (9, v401)] ∧ St I w0 w [Ch.own (rSlice 3 rInt) [v401] s162.2.1, Ch.blk g1 [.int .i64 p0.1, va0, va1] 27, Ch.own (rSlice 3 rInt) [v304] s123.1, F]) ?_ ?_
    · refine wp_block (wp_loopM (R := List Int) (S := (List (List Int)) × (List Int) × Int) (fun s161 a w => ∃ v402 v403 : Value, Agr 99 a [(1, .pointer (some ⟨g1, 0, none⟩)), (4, v304), (7, .int .i64 s123.2), (8, v402), (9, v403), (10, .int .i64 s161.2.2)] ∧ St I w0 w [Ch.own (rSlice 34 (rSlice 3 rInt)) [v402] s161.1, Ch.own (rSlice 3 rInt) [v403] s161.2.1, Ch.blk g1 [.int .i64 p0.1, va0, va1] 27, Ch.own (rSlice 3 rInt) [v304] s123.1, F]) hl21 ?_ ?_)
      · exact ⟨v305, v306, A842.pick' ⟨rfl, rfl, rfl, rfl, rfl, rfl, trivial⟩, St.sel S842 5 [1, 0, 2, 3, 4] rfl rfl⟩
      rintro s161 o120 hm hf21 a1087 w1087 ⟨v402, v403, A1087, S1087⟩
      unfold m_s_l12Classes_l2 at hm
      refine wp_seq (wp_seq (wp_region_lit (rn A1087 S1087 (sv (opT_move (v := .int .i64 s161.2.2) rfl rfl) rfl rfl (sv (opT_field_addr (g := g1) (b := 0) tf27_1 rfl rfl) rfl rfl (sop (opT_load_blk (g := g1) (off := 1) (E := 27) (l := [.int .i64 p0.1, va0, va1]) (d := [va0]) (u := va0) ti22 rfl rfl rfl rfl rfl rfl) (perm_front (i := 2) rfl) rfl rfl ?_))))))
      rintro u a1088 w1088 hf A1088 (S1088 : St I w0 w1088 [Ch.blk g1 [.int .i64 p0.1, va0, va1] 27, Ch.own (rSlice 34 (rSlice 3 rInt)) [v402] s161.1, Ch.own (rSlice 3 rInt) [v403] s161.2.1, Ch.own (rSlice 3 rInt) [v304] s123.1, F])
      obtain rfl := Eq.symm hf
      clear A1087 S1087 a1087 w1087
      refine rn A1088 S1088 (sv (opT_len_hd (v := va0) (n := p0.2.1.length) (Hd.of_rd ra0) Try.underlying22 rfl rfl) rfl rfl (sv (opT_cmp (k := .i64) (m := s161.2.2) (n := (p0.2.1.length : Int)) (c := decide (s161.2.2 < (p0.2.1.length : Int))) rfl rfl rfl rfl rfl) rfl rfl (enR (L' := [(1, .pointer (some ⟨g1, 0, none⟩)), (4, v304), (7, .int .i64 s123.2), (8, v402), (9, v403), (10, .int .i64 s161.2.2), (51, .bool (decide (s161.2.2 < (p0.2.1.length : Int))))]) rfl ?_)))
      clear A1088 S1088 a1088 w1088;intro a1089 w1089 A1089 S1089
      refine nrm ?_
      rcases two (decide (s161.2.2 < (p0.2.1.length : Int))) with hb221 | hb221
      · replace hm := ifFe hb221 hm
        refine cnd_false (b := decide (s161.2.2 < (p0.2.1.length : Int))) A1089 rfl rfl hb221 ?_
        exact wp_exit (thenX (thenX (ex_in (nrm (⟨_, loopBrk hm hf21, ⟨v403, A1089.pick' ⟨rfl, rfl, rfl, rfl, trivial⟩, St.sel S1089 5 [2, 0, 3, 4] rfl rfl⟩⟩)))))
      replace hm := ifTe hb221 hm
      refine cnd_true (b := decide (s161.2.2 < (p0.2.1.length : Int))) A1089 rfl rfl hb221 ?_
      refine wp_skip (nrm ?_)
      obtain ⟨s171, hj83, hm⟩ := bind_some hm
      refine wp_seq_cut (fun a w => ∃ v426 v427 : Value, Agr 99 a [(1, .pointer (some ⟨g1, 0, none⟩)), (4, v304), (7, .int .i64 s123.2), (8, v426), (9, v427), (10, .int .i64 s161.2.2)] ∧ St I w0 w [Ch.own (rSlice 34 (rSlice 3 rInt)) [v426] s171.1, Ch.own (rSlice 3 rInt) [v427] s171.2, Ch.blk g1 [.int .i64 p0.1, va0, va1] 27, Ch.own (rSlice 3 rInt) [v304] s123.1, F]) ?_ ?_
      · replace hm := hj83
        refine wp_block (wp_seq (wp_seq (wp_region_lit (rn A1089 S1089 (sv (opT_move (v := v304) rfl rfl) rfl rfl (sv (opT_move (v := .int .i64 s161.2.2) rfl rfl) rfl rfl ?_))))))
        obtain ⟨x132, e325, hm⟩ := bind_some hm
        refine sv (opT_index_hd (xs := s123.1) (i := s161.2.2) (n := 1) (St.hd S1089 3 rfl).1 Try.underlying34 ti3 rfl rfl rfl (getI_in e325)) rfl rfl (sop (opT_load_own (E := 3) (R := rInt) (S := rInt) (xs := s123.1) (a := x132) (i := s161.2.2) (k := 1) (off := 0) (f := fun (x : Int) => x) sh_int e325 Fld.self ti3 rfl rfl rfl rfl rfl) (perm_front (i := 3) rfl) rfl rfl ?_)
        rintro u a1149 w1149 hf A1149 (S1149 : St I w0 w1149 [Ch.own (rSlice 3 rInt) [v304] s123.1, Ch.blk g1 [.int .i64 p0.1, va0, va1] 27, Ch.own (rSlice 34 (rSlice 3 rInt)) [v402] s161.1, Ch.own (rSlice 3 rInt) [v403] s161.2.1, F])
        obtain rfl := lds_one hf
        clear A1089 S1089 a1089 w1089
        refine rn A1149 S1149 (sv (opT_cmp (k := .i64) (m := x132) (n := 0) (c := decide (x132 < 0)) rfl rfl rfl rfl rfl) rfl rfl (enR (L' := [(1, .pointer (some ⟨g1, 0, none⟩)), (4, v304), (7, .int .i64 s123.2), (8, v402), (9, v403), (10, .int .i64 s161.2.2), (58, .bool (decide (x132 < 0)))]) rfl ?_))
        clear A1149 S1149 a1149 w1149;intro a1150 w1150 A1150 S1150
        refine nrm ?_
        rcases two (decide (x132 < 0)) with hb234 | hb234
        · replace hm := ifFe hb234 hm
          refine cnd_false (b := decide (x132 < 0)) A1150 rfl rfl hb234 ?_
          refine wp_skip (nrm (wp_seq (wp_region_lit (rn A1150 S1150 (sop (opT_load_blk (g := g1) (off := 0) (E := 27) (l := [.int .i64 p0.1, va0, va1]) (d := [.int .i64 p0.1, va0, va1]) (u := .agg #[.int .i64 p0.1, va0, va1]) ti27 rfl rfl rfl rfl rfl rfl) (perm_front (i := 1) rfl) rfl rfl ?_)))))
          rintro u a1151 w1151 hf A1151 (S1151 : St I w0 w1151 [Ch.blk g1 [.int .i64 p0.1, va0, va1] 27, Ch.own (rSlice 3 rInt) [v304] s123.1, Ch.own (rSlice 34 (rSlice 3 rInt)) [v402] s161.1, Ch.own (rSlice 3 rInt) [v403] s161.2.1, F])
          obtain rfl := Eq.symm hf
          clear A1150 S1150 a1150 w1150
          refine rn A1151 S1151 (sv (opT_move (v := v304) rfl rfl) rfl rfl (sv (opT_move (v := .int .i64 s161.2.2) rfl rfl) rfl rfl ?_))
          obtain ⟨r225, e326, hm⟩ := bind_some hm
          refine sop (OpT.lend (ls := [Ch.own (rSlice 3 rInt) [v304] s123.1]) (gv := fun v => [Ch.own (rSlice 3 rInt) [v] r225]) (fun _ => ⟨dp_own (dp_slice dp_int), trivial⟩) fun J hJ hl hb => opT_call (args := #[.agg #[.int .i64 p0.1, va0, va1], v304, .int .i64 s161.2.2]) (first := #[]) (captured := #[]) en150 rfl rfl rfl (c_s_l12Key (p0.1, p0.2.1, p0.2.2) s123.1 s161.2.2 _ e326 va0 va1 v304 (Rep.rd_mono _ ra0 hJ) (Rep.rd_mono _ ra1 hJ) (hl _ _ _ (List.Mem.head _)))) (perm_front (i := 1) rfl) rfl rfl ?_
          rintro v428 a1152 w1152 - A1152 (S1152 : St I w0 w1152 [Ch.own (rSlice 3 rInt) [v428] r225, Ch.own (rSlice 3 rInt) [v304] s123.1, Ch.blk g1 [.int .i64 p0.1, va0, va1] 27, Ch.own (rSlice 34 (rSlice 3 rInt)) [v402] s161.1, Ch.own (rSlice 3 rInt) [v403] s161.2.1, F])
          clear A1151 S1151 a1151 w1151
          refine rn A1152 S1152 (sv (opT_assign (v := v428) rfl rfl) rfl rfl (enR (L' := [(1, .pointer (some ⟨g1, 0, none⟩)), (4, v304), (7, .int .i64 s123.2), (8, v402), (9, v403), (10, .int .i64 s161.2.2), (11, v428)]) rfl ?_))
          clear A1152 S1152 a1152 w1152;intro a1153 w1153 A1153 S1153
          refine nrm (wp_seq (wp_region_lit (rn A1153 S1153 (sv (opT_assign (v := .int .i64 (-1)) rfl rfl) rfl rfl (enR (L' := [(1, .pointer (some ⟨g1, 0, none⟩)), (4, v304), (7, .int .i64 s123.2), (8, v402), (9, v403), (10, .int .i64 s161.2.2), (11, v428), (12, .int .i64 (-1))]) rfl ?_)))))
          clear A1153 S1153 a1153 w1153;intro a1154 w1154 A1154 S1154
          refine nrm (wp_seq (wp_seq (wp_region_lit (rn A1154 S1154 (sv (opT_assign (v := .int .i64 0) rfl rfl) rfl rfl (enR (L' := [(1, .pointer (some ⟨g1, 0, none⟩)), (4, v304), (7, .int .i64 s123.2), (8, v402), (9, v403), (10, .int .i64 s161.2.2), (11, v428), (12, .int .i64 (-1)), (13, .int .i64 0)]) rfl ?_))))))
          clear A1154 S1154 a1154 w1154;intro a1155 w1155 A1155 S1155
          refine nrm ?_
          obtain ⟨o130, hl23, hc108⟩ := bindL_some hm
          refine wp_cut (fun a w => ∃ s177 : (List (List Int)) × Int × Int, o130 = .brk s177 ∧ Agr 99 a [(1, .pointer (some ⟨g1, 0, none⟩)), (4, v304), (7, .int .i64 s123.2), (8, v402), (9, v403), (10, .int .i64 s161.2.2), (11, v428), (12, .int .i64 s177.2.1)] ∧ St I w0 w [Ch.own (rSlice 34 (rSlice 3 rInt)) [v402] s177.1, Ch.blk g1 [.int .i64 p0.1, va0, va1] 27, Ch.own (rSlice 3 rInt) [v304] s123.1, Ch.own (rSlice 3 rInt) [v403] s161.2.1, Ch.own (rSlice 3 rInt) [v428] r225, F]) ?_ ?_
          · refine wp_block (wp_loopM (R := List Int) (S := (List (List Int)) × Int × Int) (fun s176 a w => Agr 99 a [(1, .pointer (some ⟨g1, 0, none⟩)), (4, v304), (7, .int .i64 s123.2), (8, v402), (9, v403), (10, .int .i64 s161.2.2), (11, v428), (12, .int .i64 s176.2.1), (13, .int .i64 s176.2.2)] ∧ St I w0 w [Ch.own (rSlice 34 (rSlice 3 rInt)) [v402] s176.1, Ch.blk g1 [.int .i64 p0.1, va0, va1] 27, Ch.own (rSlice 3 rInt) [v304] s123.1, Ch.own (rSlice 3 rInt) [v403] s161.2.1, Ch.own (rSlice 3 rInt) [v428] r225, F]) hl23 ?_ ?_)
            · exact ⟨A1155.pick' ⟨rfl, rfl, rfl, rfl, rfl, rfl, rfl, rfl, rfl, trivial⟩, St.sel S1155 6 [3, 2, 1, 4, 0, 5] rfl rfl⟩
            rintro s176 o131 hm hf23 a1178 w1178 ⟨A1178, S1178⟩
            unfold m_s_l12Classes_l3 at hm
            refine wp_seq (wp_seq (wp_region_lit (rn A1178 S1178 (sv (opT_move (v := .int .i64 s176.2.2) rfl rfl) rfl rfl (sv (opT_move (v := v402) rfl rfl) rfl rfl (sv (opT_len_hd (v := v402) (n := s176.1.length) (St.hd S1178 0 rfl).1 Try.underlying23 rfl rfl) rfl rfl (sv (opT_cmp (k := .i64) (m := s176.2.2) (n := (s176.1.length : Int)) (c := decide (s176.2.2 < (s176.1.length : Int))) rfl rfl rfl rfl rfl) rfl rfl (enR (L' := [(1, .pointer (some ⟨g1, 0, none⟩)), (4, v304), (7, .int .i64 s123.2), (8, v402), (9, v403), (10, .int .i64 s161.2.2), (11, v428), (12, .int .i64 s176.2.1), (13, .int .i64 s176.2.2), (69, .bool (decide (s176.2.2 < (s176.1.length : Int))))]) rfl ?_))))))))
            clear A1178 S1178 a1178 w1178;intro a1179 w1179 A1179 S1179
            refine nrm ?_
            rcases two (decide (s176.2.2 < (s176.1.length : Int))) with hb241 | hb241
            · replace hm := ifFe hb241 hm
              refine cnd_false (b := decide (s176.2.2 < (s176.1.length : Int))) A1179 rfl rfl hb241 ?_
              exact wp_exit (thenX (thenX (ex_in (nrm (⟨_, loopBrk hm hf23, ⟨A1179.pick' ⟨rfl, rfl, rfl, rfl, rfl, rfl, rfl, rfl, trivial⟩, St.sel S1179 6 [0, 1, 2, 3, 4, 5] rfl rfl⟩⟩)))))
            replace hm := ifTe hb241 hm
            refine cnd_true (b := decide (s176.2.2 < (s176.1.length : Int))) A1179 rfl rfl hb241 ?_
            refine wp_skip (nrm ?_)
            obtain ⟨s178, hj86, hm⟩ := bind_some hm
            refine wp_seq_cut (fun a w => Agr 99 a [(1, .pointer (some ⟨g1, 0, none⟩)), (4, v304), (7, .int .i64 s123.2), (8, v402), (9, v403), (10, .int .i64 s161.2.2), (11, v428), (12, .int .i64 s178.2), (13, .int .i64 s176.2.2)] ∧ St I w0 w [Ch.own (rSlice 34 (rSlice 3 rInt)) [v402] s178.1, Ch.blk g1 [.int .i64 p0.1, va0, va1] 27, Ch.own (rSlice 3 rInt) [v304] s123.1, Ch.own (rSlice 3 rInt) [v403] s161.2.1, Ch.own (rSlice 3 rInt) [v428] r225, F]) ?_ ?_
            · replace hm := hj86
              refine wp_block (wp_seq (wp_region_lit (rn A1179 S1179 (sv (opT_move (v := v402) rfl rfl) rfl rfl (sv (opT_move (v := .int .i64 s176.2.2) rfl rfl) rfl rfl ?_)))))
              obtain ⟨x138, e337, hm⟩ := bind_some hm
              refine sv (opT_index_hd (xs := s176.1) (i := s176.2.2) (n := 1) (St.hd S1179 0 rfl).1 Try.underlying23 ti34 rfl rfl rfl (getI_in e337)) rfl rfl (sop (opT_borrow (E := 34) (R := rSlice 3 rInt) (xs := s176.1) (y := x138) (i := s176.2.2) (k := 1) e337 ti34 rfl rfl rfl rfl) (perm_front (i := 0) rfl) rfl rfl ?_)
              rintro v440 a1184 w1184 - A1184 (S1184 : St I w0 w1184 [Ch.own (rSlice 3 rInt) [v440] x138, Ch.hole 34 (rSlice 3 rInt) v402 [v440] s176.1 s176.2.2.toNat, Ch.blk g1 [.int .i64 p0.1, va0, va1] 27, Ch.own (rSlice 3 rInt) [v304] s123.1, Ch.own (rSlice 3 rInt) [v403] s161.2.1, Ch.own (rSlice 3 rInt) [v428] r225, F])
              clear A1179 S1179 a1179 w1179
              refine rn A1184 S1184 (sv (opT_move (v := v428) rfl rfl) rfl rfl ?_)
              obtain ⟨r237, e338, hm⟩ := bind_some hm
              refine sop (OpT.lend (ls := [Ch.own (rSlice 3 rInt) [v440] x138, Ch.own (rSlice 3 rInt) [v428] r225]) (gv := fun v => []) (fun _ => trivial) fun J hJ hl hb => opT_call (args := #[v440, v428]) (first := #[]) (captured := #[]) en104 rfl rfl rfl (c_s_l2Cmp x138 r225 _ e338 v440 v428 (hl _ _ _ (List.Mem.head _)) (hl _ _ _ (List.Mem.tail _ (List.Mem.head _))))) (perm_sel [0, 5, 1, 2, 3, 4, 6] (m := 7) rfl rfl) rfl rfl ?_
              rintro u a1185 w1185 hf A1185 (S1185 : St I w0 w1185 [Ch.own (rSlice 3 rInt) [v440] x138, Ch.own (rSlice 3 rInt) [v428] r225, Ch.hole 34 (rSlice 3 rInt) v402 [v440] s176.1 s176.2.2.toNat, Ch.blk g1 [.int .i64 p0.1, va0, va1] 27, Ch.own (rSlice 3 rInt) [v304] s123.1, Ch.own (rSlice 3 rInt) [v403] s161.2.1, F])
              obtain rfl := Eq.symm hf
              clear A1184 S1184 a1184 w1184
              refine rn A1185 S1185 (sv (opT_cmp (k := .i64) (m := r237) (n := 0) (c := r237 == 0) rfl rfl rfl rfl rfl) rfl rfl (enR (L' := [(1, .pointer (some ⟨g1, 0, none⟩)), (4, v304), (7, .int .i64 s123.2), (8, v402), (9, v403), (10, .int .i64 s161.2.2), (11, v428), (12, .int .i64 s176.2.1), (13, .int .i64 s176.2.2), (78, .bool (r237 == 0))]) rfl ?_))
              clear A1185 S1185 a1185 w1185;intro a1186 w1186 A1186 S1186
              replace S1186 : St I w0 w1186 [Ch.own (rSlice 3 rInt) [v440] x138, Ch.hole 34 (rSlice 3 rInt) v402 [v440] s176.1 s176.2.2.toNat, Ch.own (rSlice 3 rInt) [v428] r225, Ch.blk g1 [.int .i64 p0.1, va0, va1] 27, Ch.own (rSlice 3 rInt) [v304] s123.1, Ch.own (rSlice 3 rInt) [v403] s161.2.1, F] := St.sel S1186 7 [0, 2, 1, 3, 4, 5, 6] rfl rfl
              replace S1186 : St I w0 w1186 [Ch.own (rSlice 34 (rSlice 3 rInt)) [v402] (s176.1.set s176.2.2.toNat x138), Ch.own (rSlice 3 rInt) [v428] r225, Ch.blk g1 [.int .i64 p0.1, va0, va1] 27, Ch.own (rSlice 3 rInt) [v304] s123.1, Ch.own (rSlice 3 rInt) [v403] s161.2.1, F] := St.putback S1186
              refine nrm ?_
              rcases two (r237 == 0) with hb243 | hb243
              · replace hm := ifFe hb243 hm
                refine cnd_false (b := r237 == 0) A1186 rfl rfl hb243 ?_
                refine wp_skip (nrmB (nrm ?_))
                obtain rfl := Option.some.inj hm
                exact ⟨A1186.pick' ⟨rfl, rfl, rfl, rfl, rfl, rfl, rfl, rfl, rfl, trivial⟩, St.sel S1186 6 [0, 2, 3, 4, 1, 5] rfl rfl⟩
              replace hm := ifTe hb243 hm
              refine cnd_true (b := r237 == 0) A1186 rfl rfl hb243 ?_
              refine wp_region_lit (rn A1186 S1186 (sv (opT_move (v := .int .i64 s176.2.2) rfl rfl) rfl rfl (sv (opT_assign (v := .int .i64 s176.2.2) rfl rfl) rfl rfl (enR (L' := [(1, .pointer (some ⟨g1, 0, none⟩)), (4, v304), (7, .int .i64 s123.2), (8, v402), (9, v403), (10, .int .i64 s161.2.2), (11, v428), (12, .int .i64 s176.2.2), (13, .int .i64 s176.2.2)]) rfl ?_))))
              clear A1186 S1186 a1186 w1186;intro a1187 w1187 A1187 S1187
              refine nrmB (nrm ?_)
              obtain rfl := Option.some.inj hm
              exact ⟨A1187.pick' ⟨rfl, rfl, rfl, rfl, rfl, rfl, rfl, rfl, rfl, trivial⟩, St.sel S1187 6 [0, 2, 3, 4, 1, 5] rfl rfl⟩
            rintro a1188 w1188 ⟨A1188, S1188⟩
            refine wp_region_lit (rn A1188 S1188 (sv (opT_move (v := .int .i64 s176.2.2) rfl rfl) rfl rfl (sv (opT_add (m := s176.2.2) (n := 1) rfl rfl rfl) rfl rfl (sv (opT_assign (v := .int .i64 (IntKind.i64.wrap (s176.2.2 + 1))) rfl rfl) rfl rfl (enR (L' := [(1, .pointer (some ⟨g1, 0, none⟩)), (4, v304), (7, .int .i64 s123.2), (8, v402), (9, v403), (10, .int .i64 s161.2.2), (11, v428), (12, .int .i64 s178.2), (13, .int .i64 (IntKind.i64.wrap (s176.2.2 + 1)))]) rfl ?_)))))
            clear A1188 S1188 a1188 w1188;intro a1189 w1189 A1189 S1189
            exact nrm (⟨_, (Option.some.inj hm).symm, ⟨A1189.pick' ⟨rfl, rfl, rfl, rfl, rfl, rfl, rfl, rfl, rfl, trivial⟩, St.sel S1189 6 [0, 1, 2, 3, 4, 5] rfl rfl⟩⟩)
          rintro a1190 w1190 ⟨s177, ho106, A1190, S1190⟩
          replace hm := loopOut ho106 hc108
          clear ho106 hc108 hl23
          refine nrm ?_
          obtain ⟨s179, hj87, hm⟩ := bind_some hm
          refine wp_seq_cut (fun a w => ∃ v443 : Value, Agr 99 a [(1, .pointer (some ⟨g1, 0, none⟩)), (4, v304), (7, .int .i64 s123.2), (8, v443), (9, v403), (10, .int .i64 s161.2.2), (12, .int .i64 s179.2)] ∧ St I w0 w [Ch.own (rSlice 34 (rSlice 3 rInt)) [v443] s179.1, Ch.blk g1 [.int .i64 p0.1, va0, va1] 27, Ch.own (rSlice 3 rInt) [v304] s123.1, Ch.own (rSlice 3 rInt) [v403] s161.2.1, F]) ?_ ?_
          · replace hm := hj87
            refine wp_seq (wp_region_lit (rn A1190 S1190 (sv (opT_move (v := .int .i64 s177.2.1) rfl rfl) rfl rfl (sv (opT_cmp (k := .i64) (m := s177.2.1) (n := 0) (c := decide (s177.2.1 < 0)) rfl rfl rfl rfl rfl) rfl rfl (enR (L' := [(1, .pointer (some ⟨g1, 0, none⟩)), (4, v304), (7, .int .i64 s123.2), (8, v402), (9, v403), (10, .int .i64 s161.2.2), (11, v428), (12, .int .i64 s177.2.1), (81, .bool (decide (s177.2.1 < 0)))]) rfl ?_)))))
            clear A1190 S1190 a1190 w1190;intro a1196 w1196 A1196 S1196
            refine nrm ?_
            rcases two (decide (s177.2.1 < 0)) with hb245 | hb245
            · replace hm := ifFe hb245 hm
              refine cnd_false (b := decide (s177.2.1 < 0)) A1196 rfl rfl hb245 ?_
              refine wp_skip (nrm ?_)
              obtain rfl := Option.some.inj hm
              exact ⟨v402, A1196.pick' ⟨rfl, rfl, rfl, rfl, rfl, rfl, rfl, trivial⟩, St.sel S1196 6 [0, 1, 2, 3, 5] rfl rfl⟩
            replace hm := ifTe hb245 hm
            refine cnd_true (b := decide (s177.2.1 < 0)) A1196 rfl rfl hb245 ?_
            refine wp_seq (wp_region_lit (rn A1196 S1196 (sv (opT_move (v := v402) rfl rfl) rfl rfl (sv (opT_len_hd (v := v402) (n := s177.1.length) (St.hd S1196 0 rfl).1 Try.underlying23 rfl rfl) rfl rfl (sv (opT_assign (v := .int .i64 (s177.1.length : Int)) rfl rfl) rfl rfl (enR (L' := [(1, .pointer (some ⟨g1, 0, none⟩)), (4, v304), (7, .int .i64 s123.2), (8, v402), (9, v403), (10, .int .i64 s161.2.2), (11, v428), (12, .int .i64 (s177.1.length : Int))]) rfl ?_))))))
            clear A1196 S1196 a1196 w1196;intro a1197 w1197 A1197 S1197
            refine nrm (wp_region_lit (rn A1197 S1197 (sv (opT_move (v := v402) rfl rfl) rfl rfl (sv (opT_move (v := v428) rfl rfl) rfl rfl (sop (opT_lit (E := 34) (R := rSlice 3 rInt) [(v428, [v428])] [r225] Try.underlying23 tz34 (by decide) rfl (by decide) (by decide) rfl rfl rfl rfl (us_all ⟨⟨(Hd.cells (St.hd S1197 4 rfl).1), rfl⟩, trivial⟩)) (perm_front (i := 4) rfl) rfl rfl ?_)))))
            rintro v444 a1198 w1198 - A1198 (S1198 : St I w0 w1198 [Ch.own (rSlice 34 (rSlice 3 rInt)) [v444] ([r225]), Ch.own (rSlice 34 (rSlice 3 rInt)) [v402] s177.1, Ch.blk g1 [.int .i64 p0.1, va0, va1] 27, Ch.own (rSlice 3 rInt) [v304] s123.1, Ch.own (rSlice 3 rInt) [v403] s161.2.1, F])
            clear A1197 S1197 a1197 w1197
            obtain ⟨z73, e340, hm⟩ := bind_some hm
            refine rn A1198 S1198 (sop (opT_app (E := 34) (R := rSlice 3 rInt) (s := v402) (u := v444) e340 Try.underlying23 tz34 rfl (by decide) rfl (by decide) rfl rfl rfl) (perm_sel [1, 0, 2, 3, 4, 5] (m := 6) rfl rfl) rfl rfl ?_)
            rintro v445 a1199 w1199 - A1199 (S1199 : St I w0 w1199 [Ch.own (rSlice 34 (rSlice 3 rInt)) [v445] z73, Ch.blk g1 [.int .i64 p0.1, va0, va1] 27, Ch.own (rSlice 3 rInt) [v304] s123.1, Ch.own (rSlice 3 rInt) [v403] s161.2.1, F])
            clear A1198 S1198 a1198 w1198
            refine rn A1199 S1199 (sv (opT_assign (v := v445) rfl rfl) rfl rfl (enR (L' := [(1, .pointer (some ⟨g1, 0, none⟩)), (4, v304), (7, .int .i64 s123.2), (8, v445), (9, v403), (10, .int .i64 s161.2.2), (12, .int .i64 (s177.1.length : Int))]) rfl ?_))
            clear A1199 S1199 a1199 w1199;intro a1200 w1200 A1200 S1200
            refine nrm ?_
            obtain rfl := Option.some.inj hm
            exact ⟨v445, A1200.pick' ⟨rfl, rfl, rfl, rfl, rfl, rfl, rfl, trivial⟩, St.sel S1200 5 [0, 1, 2, 3, 4] rfl rfl⟩
          rintro a1201 w1201 ⟨v443, A1201, S1201⟩
          refine wp_region_lit (rn A1201 S1201 (sv (opT_move (v := v403) rfl rfl) rfl rfl (sv (opT_move (v := .int .i64 s179.2) rfl rfl) rfl rfl (sop (opT_lit_cpy (E := 3) (R := rInt) (S := rInt) [(.int .i64 s179.2, [.int .i64 s179.2])] [s179.2] cpy_int (rd_all ⟨rfl, trivial⟩) Try.underlying34 tz3 (by decide) rfl (by decide) (by decide) rfl rfl rfl rfl (us_all ⟨⟨rfl, rfl⟩, trivial⟩)) (List.Perm.refl _) rfl rfl ?_))))
          rintro v446 a1202 w1202 - A1202 (S1202 : St I w0 w1202 [Ch.own (rSlice 3 rInt) [v446] ([s179.2]), Ch.own (rSlice 34 (rSlice 3 rInt)) [v443] s179.1, Ch.blk g1 [.int .i64 p0.1, va0, va1] 27, Ch.own (rSlice 3 rInt) [v304] s123.1, Ch.own (rSlice 3 rInt) [v403] s161.2.1, F])
          clear A1201 S1201 a1201 w1201
          obtain ⟨z74, e341, hm⟩ := bind_some hm
          refine rn A1202 S1202 (sop (opT_app (E := 3) (R := rInt) (s := v403) (u := v446) e341 Try.underlying34 tz3 rfl (by decide) rfl (by decide) rfl rfl rfl) (perm_sel [4, 0, 1, 2, 3, 5] (m := 6) rfl rfl) rfl rfl ?_)
          rintro v447 a1203 w1203 - A1203 (S1203 : St I w0 w1203 [Ch.own (rSlice 3 rInt) [v447] z74, Ch.own (rSlice 34 (rSlice 3 rInt)) [v443] s179.1, Ch.blk g1 [.int .i64 p0.1, va0, va1] 27, Ch.own (rSlice 3 rInt) [v304] s123.1, F])
          clear A1202 S1202 a1202 w1202
          refine rn A1203 S1203 (sv (opT_assign (v := v447) rfl rfl) rfl rfl (enR (L' := [(1, .pointer (some ⟨g1, 0, none⟩)), (4, v304), (7, .int .i64 s123.2), (8, v443), (9, v447), (10, .int .i64 s161.2.2)]) rfl ?_))
          clear A1203 S1203 a1203 w1203;intro a1204 w1204 A1204 S1204
          refine nrmB (nrm ?_)
          obtain rfl := Option.some.inj hm
          exact ⟨v443, v447, A1204.pick' ⟨rfl, rfl, rfl, rfl, rfl, rfl, trivial⟩, St.sel S1204 5 [1, 0, 2, 3, 4] rfl rfl⟩
        replace hm := ifTe hb234 hm
        refine cnd_true (b := decide (x132 < 0)) A1150 rfl rfl hb234 ?_
        refine wp_seq (wp_region_lit (rn A1150 S1150 (sv (opT_move (v := v403) rfl rfl) rfl rfl (sop (opT_lit_cpy (E := 3) (R := rInt) (S := rInt) [(.int .i64 (-1), [.int .i64 (-1)])] [-1] cpy_int (rd_all ⟨rfl, trivial⟩) Try.underlying34 tz3 (by decide) rfl (by decide) (by decide) rfl rfl rfl rfl (us_all ⟨⟨rfl, rfl⟩, trivial⟩)) (List.Perm.refl _) rfl rfl ?_))))
        rintro v448 a1205 w1205 - A1205 (S1205 : St I w0 w1205 [Ch.own (rSlice 3 rInt) [v448] ([-1]), Ch.own (rSlice 3 rInt) [v304] s123.1, Ch.blk g1 [.int .i64 p0.1, va0, va1] 27, Ch.own (rSlice 34 (rSlice 3 rInt)) [v402] s161.1, Ch.own (rSlice 3 rInt) [v403] s161.2.1, F])
        clear A1150 S1150 a1150 w1150
        obtain ⟨z75, e342, hm⟩ := bind_some hm
        refine rn A1205 S1205 (sop (opT_app (E := 3) (R := rInt) (s := v403) (u := v448) e342 Try.underlying34 tz3 rfl (by decide) rfl (by decide) rfl rfl rfl) (perm_sel [4, 0, 1, 2, 3, 5] (m := 6) rfl rfl) rfl rfl ?_)
        rintro v449 a1206 w1206 - A1206 (S1206 : St I w0 w1206 [Ch.own (rSlice 3 rInt) [v449] z75, Ch.own (rSlice 3 rInt) [v304] s123.1, Ch.blk g1 [.int .i64 p0.1, va0, va1] 27, Ch.own (rSlice 34 (rSlice 3 rInt)) [v402] s161.1, F])
        clear A1205 S1205 a1205 w1205
        refine rn A1206 S1206 (sv (opT_assign (v := v449) rfl rfl) rfl rfl (enR (L' := [(1, .pointer (some ⟨g1, 0, none⟩)), (4, v304), (7, .int .i64 s123.2), (8, v402), (9, v449), (10, .int .i64 s161.2.2)]) rfl ?_))
        clear A1206 S1206 a1206 w1206;intro a1207 w1207 A1207 S1207
        refine nrm (wp_exit (thenX (ex_in (nrm ?_))))
        obtain rfl := Option.some.inj hm
        exact ⟨v402, v449, A1207.pick' ⟨rfl, rfl, rfl, rfl, rfl, rfl, trivial⟩, St.sel S1207 5 [3, 0, 2, 1, 4] rfl rfl⟩
      rintro a1208 w1208 ⟨v426, v427, A1208, S1208⟩
      refine wp_region_lit (rn A1208 S1208 (sv (opT_move (v := .int .i64 s161.2.2) rfl rfl) rfl rfl (sv (opT_add (m := s161.2.2) (n := 1) rfl rfl rfl) rfl rfl (sv (opT_assign (v := .int .i64 (IntKind.i64.wrap (s161.2.2 + 1))) rfl rfl) rfl rfl (enR (L' := [(1, .pointer (some ⟨g1, 0, none⟩)), (4, v304), (7, .int .i64 s123.2), (8, v426), (9, v427), (10, .int .i64 (IntKind.i64.wrap (s161.2.2 + 1)))]) rfl ?_)))))
      clear A1208 S1208 a1208 w1208;intro a1209 w1209 A1209 S1209
      exact nrm (⟨_, (Option.some.inj hm).symm, ⟨v426, v427, A1209.pick' ⟨rfl, rfl, rfl, rfl, rfl, rfl, trivial⟩, St.sel S1209 5 [0, 1, 2, 3, 4] rfl rfl⟩⟩)
    rintro a1210 w1210 ⟨s162, ho109, v401, A1210, S1210⟩
    replace hm := loopOut ho109 hc99
    clear ho109 hc99 hl21
    refine nrm (wp_seq (wp_seq (wp_region_lit (rn A1210 S1210 (sv (opT_move (v := v401) rfl rfl) rfl rfl (sv (opT_move (v := v304) rfl rfl) rfl rfl ?_))))))
    obtain ⟨r238, e343, hm⟩ := bind_some hm
    refine sop (OpT.lend (ls := [Ch.own (rSlice 3 rInt) [v401] s162.2.1, Ch.own (rSlice 3 rInt) [v304] s123.1]) (gv := fun v => []) (fun _ => trivial) fun J hJ hl hb => opT_call (args := #[v401, v304]) (first := #[]) (captured := #[]) en104 rfl rfl rfl (c_s_l2Cmp s162.2.1 s123.1 _ e343 v401 v304 (hl _ _ _ (List.Mem.head _)) (hl _ _ _ (List.Mem.tail _ (List.Mem.head _))))) (perm_sel [0, 2, 1, 3] (m := 4) rfl rfl) rfl rfl ?_
    rintro u a1211 w1211 hf A1211 (S1211 : St I w0 w1211 [Ch.own (rSlice 3 rInt) [v401] s162.2.1, Ch.own (rSlice 3 rInt) [v304] s123.1, Ch.blk g1 [.int .i64 p0.1, va0, va1] 27, F])
    obtain rfl := Eq.symm hf
    clear A1210 S1210 a1210 w1210
    refine rn A1211 S1211 (sv (opT_cmp (k := .i64) (m := r238) (n := 0) (c := r238 == 0) rfl rfl rfl rfl rfl) rfl rfl (enR (L' := [(1, .pointer (some ⟨g1, 0, none⟩)), (4, v304), (7, .int .i64 s123.2), (9, v401), (95, .bool (r238 == 0))]) rfl ?_))
    clear A1211 S1211 a1211 w1211;intro a1212 w1212 A1212 S1212
    refine nrm ?_
    rcases two (r238 == 0) with hb246 | hb246
    · replace hm := ifFe hb246 hm
      refine cnd_false (b := r238 == 0) A1212 rfl rfl hb246 ?_
      refine wp_skip (nrm (wp_region_lit (rn A1212 S1212 (sv (opT_move (v := v401) rfl rfl) rfl rfl (sv (opT_assign (v := v401) rfl rfl) rfl rfl (enR (L' := [(1, .pointer (some ⟨g1, 0, none⟩)), (4, v401), (7, .int .i64 s123.2)]) rfl ?_))))))
      clear A1212 S1212 a1212 w1212;intro a1213 w1213 A1213 S1213
      refine nrmB (nrm (wp_region_lit (rn A1213 S1213 (sv (opT_move (v := .int .i64 s123.2) rfl rfl) rfl rfl (sv (opT_add (m := s123.2) (n := 1) rfl rfl rfl) rfl rfl (sv (opT_assign (v := .int .i64 (IntKind.i64.wrap (s123.2 + 1))) rfl rfl) rfl rfl (enR (L' := [(1, .pointer (some ⟨g1, 0, none⟩)), (4, v401), (7, .int .i64 (IntKind.i64.wrap (s123.2 + 1)))]) rfl ?_)))))))
      clear A1213 S1213 a1213 w1213;intro a1214 w1214 A1214 S1214
      exact nrm (⟨_, (Option.some.inj hm).symm, ⟨v401, A1214.pick' ⟨rfl, rfl, rfl, trivial⟩, St.sel S1214 4 [0, 2, 3] rfl rfl⟩⟩)
    replace hm := ifTe hb246 hm
    refine cnd_true (b := r238 == 0) A1212 rfl rfl hb246 ?_
    refine wp_seq (wp_region_lit (rn A1212 S1212 (sv (opT_move (v := v304) rfl rfl) rfl rfl (sv (opT_assign (v := v304) rfl rfl) rfl rfl (enR (L' := [(2, v304)]) rfl ?_)))))
    clear A1212 S1212 a1212 w1212;intro a1215 w1215 A1215 S1215
    refine nrm (wp_ret (thenR (blkR (thenR (thenR (blkR (thenR (thenR ?_))))))))
    replace hm := loopRet hm hf16 hc76
    obtain rfl := Option.some.inj hm
    exact ret_1 A1215 rfl (res_tmp A1215 rfl) ⟨_, rfl, trivial, _, Hp.le.rfl, St.sel (S1215) 4 [1, 3] rfl rfl⟩
  rintro a1216 w1216 ⟨s124, ho110, v303, A1216, S1216⟩
  replace hm := loopOut ho110 hc76
  clear ho110 hc76 hl16
  refine nrm (wp_seq (wp_region_lit (rn A1216 S1216 (sv (opT_move (v := v303) rfl rfl) rfl rfl (sv (opT_assign (v := v303) rfl rfl) rfl rfl (enR (L' := [(2, v303)]) rfl ?_))))))
  clear A1216 S1216 a1216 w1216;intro a1217 w1217 A1217 S1217
  refine nrm (wp_ret ?_)
  obtain rfl := Option.some.inj hm
  exact ret_1 A1217 rfl (res_tmp A1217 rfl) ⟨_, rfl, trivial, _, Hp.le.rfl, St.sel (S1217) 2 [0, 1] rfl rfl⟩
theorem c_s_l11Fits (p0a : Int × (List Bool) × (List (List Int))) (r : Bool) (hm : m_s_l11Fits p0a = some r) {I : Hp} {w0 : World} (va0 : Value) (va1 : Value) (ra0 : (rSlice 4 rBool).rd I [va0] p0a.2.1) (ra1 : (rSlice 34 (rSlice 3 rInt)).rd I [va1] p0a.2.2) : Con Try.prog 92 #[.agg #[.int .i64 p0a.1, va0, va1]] I w0 [] (fun v => v = .bool r) (fun v => []) := by
  refine con_of_wp (n := 50) [(0, .agg #[.int .i64 p0a.1, va0, va1])] Try.func92 rfl rfl (Nat.le_of_ble_eq_true rfl) (args_all ⟨rfl, trivial⟩) (fun F w a ha hs => ?_) (fun v => trivial)
  unfold m_s_l11Fits at hm
  refine wp_seq (wp_region_lit (rn ha hs (sop (opT_box (u := .agg #[.int .i64 p0a.1, va0, va1]) (l := [.int .i64 p0a.1, va0, va1]) rfl rfl rfl) (List.Perm.refl _) rfl rfl ?_)))
  rintro _ a1 w1 ⟨g1, rfl⟩ A1 (S1 : St I w0 w1 [Ch.blk g1 [.int .i64 p0a.1, va0, va1] 27, F])
  clear ha hs a w
  refine rn A1 S1 (sv (opT_assign (v := .bool false) rfl rfl) rfl rfl (enR (L' := [(1, .pointer (some ⟨g1, 0, none⟩))]) rfl ?_))
  clear A1 S1 a1 w1;intro a2 w2 A2 S2
  refine nrm (wp_seq (wp_region_lit (rn A2 S2 (sv (opT_field_addr (g := g1) (b := 0) tf27_1 rfl rfl) rfl rfl (sop (opT_load_blk (g := g1) (off := 1) (E := 27) (l := [.int .i64 p0a.1, va0, va1]) (d := [va0]) (u := va0) ti22 rfl rfl rfl rfl rfl rfl) (perm_front (i := 0) rfl) rfl rfl ?_)))))
  rintro u a3 w3 hf A3 (S3 : St I w0 w3 [Ch.blk g1 [.int .i64 p0a.1, va0, va1] 27, F])
  obtain rfl := Eq.symm hf
  clear A2 S2 a2 w2
  refine rn A3 S3 (sv (opT_len_hd (v := va0) (n := p0a.2.1.length) (Hd.of_rd ra0) Try.underlying22 rfl rfl) rfl rfl (sv (opT_assign (v := .int .i64 (p0a.2.1.length : Int)) rfl rfl) rfl rfl (enR (L' := [(1, .pointer (some ⟨g1, 0, none⟩)), (3, .int .i64 (p0a.2.1.length : Int))]) rfl ?_)))
  clear A3 S3 a3 w3;intro a4 w4 A4 S4
  refine nrm (wp_seq (wp_seq (wp_region_lit (rn A4 S4 (sv (opT_field_addr (g := g1) (b := 0) tf27_0 rfl rfl) rfl rfl (sop (opT_load_blk (g := g1) (off := 0) (E := 27) (l := [.int .i64 p0a.1, va0, va1]) (d := [.int .i64 p0a.1]) (u := .int .i64 p0a.1) ti3 rfl rfl rfl rfl rfl rfl) (perm_front (i := 0) rfl) rfl rfl ?_))))))
  rintro u a5 w5 hf A5 (S5 : St I w0 w5 [Ch.blk g1 [.int .i64 p0a.1, va0, va1] 27, F])
  obtain rfl := Eq.symm hf
  clear A4 S4 a4 w4
  refine rn A5 S5 (sv (opT_move (v := .int .i64 (p0a.2.1.length : Int)) rfl rfl) rfl rfl (sv (opT_sub (m := (p0a.2.1.length : Int)) (n := 1) rfl rfl rfl) rfl rfl ?_))
  obtain ⟨r1, e1, hm⟩ := bind_some hm
  refine so0 (opT_call (args := #[.int .i64 p0a.1, .int .i64 0, .int .i64 (IntKind.i64.wrap ((p0a.2.1.length : Int) - 1))]) (first := #[]) (captured := #[]) en146 rfl rfl rfl (c_s_l1In p0a.1 0 (IntKind.i64.wrap ((p0a.2.1.length : Int) - 1)) _ e1  )) rfl rfl ?_
  rintro u a6 w6 hf A6 S6
  obtain rfl := Eq.symm hf
  clear A5 S5 a5 w5
  refine rn A6 S6 (sv (opT_not (b := r1) rfl rfl) rfl rfl (sv (opT_move (v := .bool (!r1)) rfl rfl) rfl rfl ?_))
  rcases two (r1) with hb1 | hb1
  · replace hm := ifFe hb1 hm
    refine ssk (g := 6) (d := 15) (want := false) (b := !r1) rfl rfl rfl (notT hb1) rfl (ssk (g := 6) (d := 15) (want := false) (b := !r1) rfl rfl rfl (notT hb1) rfl (ssk (g := 6) (d := 15) (want := false) (b := !r1) rfl rfl rfl (notT hb1) rfl (ssk (g := 6) (d := 15) (want := false) (b := !r1) rfl rfl rfl (notT hb1) rfl (ssk (g := 6) (d := 15) (want := false) (b := !r1) rfl rfl rfl (notT hb1) rfl (sv (opT_pick (b := !r1) (v := .bool true) rfl rfl (ifT (notT hb1))) rfl rfl (enR (L' := [(1, .pointer (some ⟨g1, 0, none⟩)), (3, .int .i64 (p0a.2.1.length : Int)), (21, .bool true)]) rfl ?_))))))
    clear A6 S6 a6 w6;intro a7 w7 A7 S7
    refine nrm (cnd_true (b := true) A7 rfl rfl rfl ?_)
    refine wp_seq (wp_region_lit (rn A7 S7 (sv (opT_assign (v := .bool false) rfl rfl) rfl rfl (enR (L' := [(2, .bool false)]) rfl ?_))))
    clear A7 S7 a7 w7;intro a8 w8 A8 S8
    refine nrm (wp_ret (thenR ?_))
    obtain rfl := Option.some.inj hm
    exact ret_1 A8 rfl (res_tmp A8 rfl) ⟨_, rfl, rfl, _, Hp.le.rfl, St.sel (S8) 2 [1] rfl rfl⟩
  replace hm := ifTe hb1 hm
  refine svg (g := 6) (d := 15) (want := false) (b := !r1) rfl rfl rfl (notF hb1) (opT_field_addr (g := g1) (b := 0) tf27_2 rfl rfl) rfl (sopg (g := 6) (d := 15) (want := false) (b := !r1) rfl rfl rfl (notF hb1) (opT_load_blk (g := g1) (off := 2) (E := 27) (l := [.int .i64 p0a.1, va0, va1]) (d := [va1]) (u := va1) ti23 rfl rfl rfl rfl rfl rfl) (perm_front (i := 0) rfl) rfl ?_)
  rintro u a9 w9 hf A9 (S9 : St I w0 w9 [Ch.blk g1 [.int .i64 p0a.1, va0, va1] 27, F])
  obtain rfl := Eq.symm hf
  clear A6 S6 a6 w6
  refine rn A9 S9 (svg (g := 6) (d := 15) (want := false) (b := !r1) rfl rfl rfl (notF hb1) (opT_len_hd (v := va1) (n := p0a.2.2.length) (Hd.of_rd ra1) Try.underlying23 rfl rfl) rfl (svg (g := 6) (d := 15) (want := false) (b := !r1) rfl rfl rfl (notF hb1) (opT_move (v := .int .i64 (p0a.2.1.length : Int)) rfl rfl) rfl (svg (g := 6) (d := 15) (want := false) (b := !r1) rfl rfl rfl (notF hb1) (opT_cmp (k := .i64) (m := (p0a.2.2.length : Int)) (n := (p0a.2.1.length : Int)) (c := (p0a.2.2.length : Int) != (p0a.2.1.length : Int)) rfl rfl rfl rfl rfl) rfl (sv (opT_pick (b := !r1) (v := .bool ((p0a.2.2.length : Int) != (p0a.2.1.length : Int))) rfl rfl (ifF (notF hb1))) rfl rfl (enR (L' := [(1, .pointer (some ⟨g1, 0, none⟩)), (3, .int .i64 (p0a.2.1.length : Int)), (21, .bool ((p0a.2.2.length : Int) != (p0a.2.1.length : Int)))]) rfl ?_)))))
  clear A9 S9 a9 w9;intro a10 w10 A10 S10
  refine nrm ?_
  rcases two ((p0a.2.2.length : Int) != (p0a.2.1.length : Int)) with hb2 | hb2
  · replace hm := ifFe hb2 hm
    refine cnd_false (b := (p0a.2.2.length : Int) != (p0a.2.1.length : Int)) A10 rfl rfl hb2 ?_
    refine wp_skip (nrm (wp_seq (wp_seq (wp_region_lit (rn A10 S10 (sv (opT_assign (v := .int .i64 0) rfl rfl) rfl rfl (enR (L' := [(1, .pointer (some ⟨g1, 0, none⟩)), (3, .int .i64 (p0a.2.1.length : Int)), (4, .int .i64 0)]) rfl ?_)))))))
    clear A10 S10 a10 w10;intro a11 w11 A11 S11
    refine nrm ?_
    obtain ⟨o5, hl3, hc3⟩ := bindL_some hm
    refine wp_cut (fun a w => ∃ s12 : Int, o5 = .brk s12 ∧ Agr 50 a [] ∧ St I w0 w [F]) ?_ ?_
    · refine wp_block (wp_loopM (R := Bool) (S := Int) (fun s11 a w => Agr 50 a [(1, .pointer (some ⟨g1, 0, none⟩)), (3, .int .i64 (p0a.2.1.length : Int)), (4, .int .i64 s11)] ∧ St I w0 w [Ch.blk g1 [.int .i64 p0a.1, va0, va1] 27, F]) hl3 ?_ ?_)
      · exact ⟨A11.pick' ⟨rfl, rfl, rfl, trivial⟩, St.sel S11 2 [0, 1] rfl rfl⟩
      rintro s11 o6 hm hf3 a78 w78 ⟨A78, S78⟩
      unfold m_s_l11Fits_l0 at hm
      refine wp_seq (wp_seq (wp_region_lit (rn A78 S78 (sv (opT_move (v := .int .i64 s11) rfl rfl) rfl rfl (sv (opT_move (v := .int .i64 (p0a.2.1.length : Int)) rfl rfl) rfl rfl (sv (opT_cmp (k := .i64) (m := s11) (n := (p0a.2.1.length : Int)) (c := decide (s11 < (p0a.2.1.length : Int))) rfl rfl rfl rfl rfl) rfl rfl (enR (L' := [(1, .pointer (some ⟨g1, 0, none⟩)), (3, .int .i64 (p0a.2.1.length : Int)), (4, .int .i64 s11), (24, .bool (decide (s11 < (p0a.2.1.length : Int))))]) rfl ?_)))))))
      clear A78 S78 a78 w78;intro a79 w79 A79 S79
      refine nrm ?_
      rcases two (decide (s11 < (p0a.2.1.length : Int))) with hb19 | hb19
      · replace hm := ifFe hb19 hm
        refine cnd_false (b := decide (s11 < (p0a.2.1.length : Int))) A79 rfl rfl hb19 ?_
        exact wp_exit (thenX (thenX (ex_in (nrm (⟨_, loopBrk hm hf3, ⟨A79.pick' trivial, St.sel S79 2 [1] rfl rfl⟩⟩)))))
      replace hm := ifTe hb19 hm
      refine cnd_true (b := decide (s11 < (p0a.2.1.length : Int))) A79 rfl rfl hb19 ?_
      refine wp_skip (nrm (wp_seq (wp_block (wp_seq (wp_seq (wp_region_lit (rn A79 S79 (sv (opT_field_addr (g := g1) (b := 0) tf27_2 rfl rfl) rfl rfl (sop (opT_load_blk (g := g1) (off := 2) (E := 27) (l := [.int .i64 p0a.1, va0, va1]) (d := [va1]) (u := va1) ti23 rfl rfl rfl rfl rfl rfl) (perm_front (i := 0) rfl) rfl rfl ?_)))))))))
      rintro u a80 w80 hf A80 (S80 : St I w0 w80 [Ch.blk g1 [.int .i64 p0a.1, va0, va1] 27, F])
      obtain rfl := Eq.symm hf
      clear A79 S79 a79 w79
      refine rn A80 S80 (sv (opT_move (v := .int .i64 s11) rfl rfl) rfl rfl ?_)
      obtain ⟨x15, e22, hm⟩ := bind_some hm
      refine sv (opT_index_hd (xs := p0a.2.2) (i := s11) (n := 1) (Hd.of_rd ra1) Try.underlying23 ti34 rfl rfl rfl (getI_in e22)) rfl rfl (so0 (opT_load_el (S := rSlice 3 rInt) (xs := p0a.2.2) (a := x15) (i := s11) (k := 1) (off := 0) (f := fun (x : List Int) => x) ra1 e22 Fld.self ti34 rfl rfl rfl rfl rfl) rfl rfl ?_)
      rintro v9 a81 w81 hf A81 S81
      have r16 := lds_sl hf
      clear hf
      clear A80 S80 a80 w80
      refine rn A81 S81 (sv (opT_len_hd (v := v9) (n := x15.length) (Hd.of_rd r16) Try.underlying34 rfl rfl) rfl rfl (sv (opT_cmp (k := .i64) (m := (x15.length : Int)) (n := 9) (c := (x15.length : Int) != 9) rfl rfl rfl rfl rfl) rfl rfl (enR (L' := [(1, .pointer (some ⟨g1, 0, none⟩)), (3, .int .i64 (p0a.2.1.length : Int)), (4, .int .i64 s11), (33, .bool ((x15.length : Int) != 9))]) rfl ?_)))
      clear A81 S81 a81 w81;intro a82 w82 A82 S82
      refine nrm ?_
      rcases two ((x15.length : Int) != 9) with hb20 | hb20
      · replace hm := ifFe hb20 hm
        refine cnd_false (b := (x15.length : Int) != 9) A82 rfl rfl hb20 ?_
        refine wp_skip (nrm (wp_seq (wp_region_lit (rn A82 S82 (sv (opT_assign (v := .int .i64 0) rfl rfl) rfl rfl (enR (L' := [(1, .pointer (some ⟨g1, 0, none⟩)), (3, .int .i64 (p0a.2.1.length : Int)), (4, .int .i64 s11), (5, .int .i64 0)]) rfl ?_))))))
        clear A82 S82 a82 w82;intro a83 w83 A83 S83
        refine nrm ?_
        obtain ⟨o7, hl4, hc4⟩ := bindL_some hm
        refine wp_cut (fun a w => ∃ s16 : Int, o7 = .brk s16 ∧ Agr 50 a [(1, .pointer (some ⟨g1, 0, none⟩)), (3, .int .i64 (p0a.2.1.length : Int)), (4, .int .i64 s11)] ∧ St I w0 w [Ch.blk g1 [.int .i64 p0a.1, va0, va1] 27, F]) ?_ ?_
        · refine wp_block (wp_loopM (R := Bool) (S := Int) (fun s15 a w => Agr 50 a [(1, .pointer (some ⟨g1, 0, none⟩)), (3, .int .i64 (p0a.2.1.length : Int)), (4, .int .i64 s11), (5, .int .i64 s15)] ∧ St I w0 w [Ch.blk g1 [.int .i64 p0a.1, va0, va1] 27, F]) hl4 ?_ ?_)
          · exact ⟨A83.pick' ⟨rfl, rfl, rfl, rfl, trivial⟩, St.sel S83 2 [0, 1] rfl rfl⟩
          rintro s15 o8 hm hf4 a100 w100 ⟨A100, S100⟩
          unfold m_s_l11Fits_l1 at hm
          refine wp_seq (wp_seq (wp_region_lit (rn A100 S100 (sv (opT_move (v := .int .i64 s15) rfl rfl) rfl rfl (sv (opT_cmp (k := .i64) (m := s15) (n := 9) (c := decide (s15 < 9)) rfl rfl rfl rfl rfl) rfl rfl (enR (L' := [(1, .pointer (some ⟨g1, 0, none⟩)), (3, .int .i64 (p0a.2.1.length : Int)), (4, .int .i64 s11), (5, .int .i64 s15), (35, .bool (decide (s15 < 9)))]) rfl ?_))))))
          clear A100 S100 a100 w100;intro a101 w101 A101 S101
          refine nrm ?_
          rcases two (decide (s15 < 9)) with hb25 | hb25
          · replace hm := ifFe hb25 hm
            refine cnd_false (b := decide (s15 < 9)) A101 rfl rfl hb25 ?_
            exact wp_exit (thenX (thenX (ex_in (nrm (⟨_, loopBrk hm hf4, ⟨A101.pick' ⟨rfl, rfl, rfl, trivial⟩, St.sel S101 2 [0, 1] rfl rfl⟩⟩)))))
          replace hm := ifTe hb25 hm
          refine cnd_true (b := decide (s15 < 9)) A101 rfl rfl hb25 ?_
          refine wp_skip (nrm (wp_seq (wp_block (wp_seq (wp_region_lit (rn A101 S101 (sv (opT_field_addr (g := g1) (b := 0) tf27_2 rfl rfl) rfl rfl (sop (opT_load_blk (g := g1) (off := 2) (E := 27) (l := [.int .i64 p0a.1, va0, va1]) (d := [va1]) (u := va1) ti23 rfl rfl rfl rfl rfl rfl) (perm_front (i := 0) rfl) rfl rfl ?_))))))))
          rintro u a102 w102 hf A102 (S102 : St I w0 w102 [Ch.blk g1 [.int .i64 p0a.1, va0, va1] 27, F])
          obtain rfl := Eq.symm hf
          clear A101 S101 a101 w101
          refine rn A102 S102 (sv (opT_move (v := .int .i64 s11) rfl rfl) rfl rfl ?_)
          obtain ⟨x20, e29, hm⟩ := bind_some hm
          refine sv (opT_index_hd (xs := p0a.2.2) (i := s11) (n := 1) (Hd.of_rd ra1) Try.underlying23 ti34 rfl rfl rfl (getI_in e29)) rfl rfl (so0 (opT_load_el (S := rSlice 3 rInt) (xs := p0a.2.2) (a := x20) (i := s11) (k := 1) (off := 0) (f := fun (x : List Int) => x) ra1 e29 Fld.self ti34 rfl rfl rfl rfl rfl) rfl rfl ?_)
          rintro v12 a103 w103 hf A103 S103
          have r21 := lds_sl hf
          clear hf
          clear A102 S102 a102 w102
          refine rn A103 S103 (sv (opT_move (v := .int .i64 s15) rfl rfl) rfl rfl ?_)
          obtain ⟨x21, e30, hm⟩ := bind_some hm
          refine sv (opT_index_hd (xs := x20) (i := s15) (n := 1) (Hd.of_rd r21) Try.underlying34 ti3 rfl rfl rfl (getI_in e30)) rfl rfl (so0 (opT_load_el (S := rInt) (xs := x20) (a := x21) (i := s15) (k := 1) (off := 0) (f := fun (x : Int) => x) r21 e30 Fld.self ti3 rfl rfl rfl rfl rfl) rfl rfl ?_)
          rintro u a104 w104 hf A104 S104
          obtain rfl := lds_one hf
          clear A103 S103 a103 w103
          refine rn A104 S104 (sv (opT_move (v := .int .i64 (p0a.2.1.length : Int)) rfl rfl) rfl rfl (sv (opT_sub (m := (p0a.2.1.length : Int)) (n := 1) rfl rfl rfl) rfl rfl ?_))
          obtain ⟨r22, e31, hm⟩ := bind_some hm
          refine so0 (opT_call (args := #[.int .i64 x21, .int .i64 (-1), .int .i64 (IntKind.i64.wrap ((p0a.2.1.length : Int) - 1))]) (first := #[]) (captured := #[]) en146 rfl rfl rfl (c_s_l1In x21 (-1) (IntKind.i64.wrap ((p0a.2.1.length : Int) - 1)) _ e31  )) rfl rfl ?_
          rintro u a105 w105 hf A105 S105
          obtain rfl := Eq.symm hf
          clear A104 S104 a104 w104
          refine rn A105 S105 (sv (opT_not (b := r22) rfl rfl) rfl rfl (enR (L' := [(1, .pointer (some ⟨g1, 0, none⟩)), (3, .int .i64 (p0a.2.1.length : Int)), (4, .int .i64 s11), (5, .int .i64 s15), (49, .bool (!r22))]) rfl ?_))
          clear A105 S105 a105 w105;intro a106 w106 A106 S106
          refine nrm ?_
          rcases two (r22) with hb26 | hb26
          · replace hm := ifFe hb26 hm
            refine cnd_true (b := !r22) A106 rfl rfl (notT hb26) ?_
            refine wp_seq (wp_region_lit (rn A106 S106 (sv (opT_assign (v := .bool false) rfl rfl) rfl rfl (enR (L' := [(2, .bool false)]) rfl ?_))))
            clear A106 S106 a106 w106;intro a107 w107 A107 S107
            refine nrm (wp_ret (blkR (thenR (thenR (blkR (thenR (blkR (thenR (thenR (blkR (thenR (thenR ?_))))))))))))
            replace hm := loopRet hm hf4 hc4
            replace hm := loopRet hm hf3 hc3
            obtain rfl := Option.some.inj hm
            exact ret_1 A107 rfl (res_tmp A107 rfl) ⟨_, rfl, rfl, _, Hp.le.rfl, St.sel (S107) 2 [1] rfl rfl⟩
          replace hm := ifTe hb26 hm
          refine cnd_false (b := !r22) A106 rfl rfl (notF hb26) ?_
          refine wp_skip (nrmB (nrm (wp_region_lit (rn A106 S106 (sv (opT_move (v := .int .i64 s15) rfl rfl) rfl rfl (sv (opT_add (m := s15) (n := 1) rfl rfl rfl) rfl rfl (sv (opT_assign (v := .int .i64 (IntKind.i64.wrap (s15 + 1))) rfl rfl) rfl rfl (enR (L' := [(1, .pointer (some ⟨g1, 0, none⟩)), (3, .int .i64 (p0a.2.1.length : Int)), (4, .int .i64 s11), (5, .int .i64 (IntKind.i64.wrap (s15 + 1)))]) rfl ?_))))))))
          clear A106 S106 a106 w106;intro a108 w108 A108 S108
          exact nrm (⟨_, (Option.some.inj hm).symm, ⟨A108.pick' ⟨rfl, rfl, rfl, rfl, trivial⟩, St.sel S108 2 [0, 1] rfl rfl⟩⟩)
        rintro a109 w109 ⟨s16, ho3, A109, S109⟩
        replace hm := loopOut ho3 hc4
        clear ho3 hc4 hl4
        refine nrmB (nrm (wp_region_lit (rn A109 S109 (sv (opT_move (v := .int .i64 s11) rfl rfl) rfl rfl (sv (opT_add (m := s11) (n := 1) rfl rfl rfl) rfl rfl (sv (opT_assign (v := .int .i64 (IntKind.i64.wrap (s11 + 1))) rfl rfl) rfl rfl (enR (L' := [(1, .pointer (some ⟨g1, 0, none⟩)), (3, .int .i64 (p0a.2.1.length : Int)), (4, .int .i64 (IntKind.i64.wrap (s11 + 1)))]) rfl ?_)))))))
        clear A109 S109 a109 w109;intro a110 w110 A110 S110
        exact nrm (⟨_, (Option.some.inj hm).symm, ⟨A110.pick' ⟨rfl, rfl, rfl, trivial⟩, St.sel S110 2 [0, 1] rfl rfl⟩⟩)
      replace hm := ifTe hb20 hm
      refine cnd_true (b := (x15.length : Int) != 9) A82 rfl rfl hb20 ?_
      refine wp_seq (wp_region_lit (rn A82 S82 (sv (opT_assign (v := .bool false) rfl rfl) rfl rfl (enR (L' := [(2, .bool false)]) rfl ?_))))
      clear A82 S82 a82 w82;intro a111 w111 A111 S111
      refine nrm (wp_ret (thenR (blkR (thenR (thenR (blkR (thenR (thenR ?_))))))))
      replace hm := loopRet hm hf3 hc3
      obtain rfl := Option.some.inj hm
      exact ret_1 A111 rfl (res_tmp A111 rfl) ⟨_, rfl, rfl, _, Hp.le.rfl, St.sel (S111) 2 [1] rfl rfl⟩
    rintro a112 w112 ⟨s12, ho4, A112, S112⟩
    replace hm := loopOut ho4 hc3
    clear ho4 hc3 hl3
    refine nrm (wp_seq (wp_region_lit (rn A112 S112 (sv (opT_assign (v := .bool true) rfl rfl) rfl rfl (enR (L' := [(2, .bool true)]) rfl ?_)))))
    clear A112 S112 a112 w112;intro a113 w113 A113 S113
    refine nrm (wp_ret ?_)
    obtain rfl := Option.some.inj hm
    exact ret_1 A113 rfl (res_tmp A113 rfl) ⟨_, rfl, rfl, _, Hp.le.rfl, St.sel (S113) 1 [0] rfl rfl⟩
  replace hm := ifTe hb2 hm
  refine cnd_true (b := (p0a.2.2.length : Int) != (p0a.2.1.length : Int)) A10 rfl rfl hb2 ?_
  refine wp_seq (wp_region_lit (rn A10 S10 (sv (opT_assign (v := .bool false) rfl rfl) rfl rfl (enR (L' := [(2, .bool false)]) rfl ?_))))
  clear A10 S10 a10 w10;intro a114 w114 A114 S114
  refine nrm (wp_ret (thenR ?_))
  obtain rfl := Option.some.inj hm
  exact ret_1 A114 rfl (res_tmp A114 rfl) ⟨_, rfl, rfl, _, Hp.le.rfl, St.sel (S114) 2 [1] rfl rfl⟩
theorem c_w_toIntSS (p0a : List (List Int)) (r : List (List Int)) (hm : m_w_toIntSS p0a = some r) {I : Hp} {w0 : World} (va0 : Value) (ra0 : (rSlice 34 (rSlice 3 rInt)).rd I [va0] p0a) : Con Try.prog 50 #[va0] I w0 [] (fun v => True) (fun v => [Ch.own (rSlice 34 (rSlice 3 rInt)) [v] r]) := by
  refine con_of_wp (n := 23) [(0, va0)] Try.func50 rfl rfl (Nat.le_of_ble_eq_true rfl) (args_all ⟨rfl, trivial⟩) (fun F w a ha hs => ?_) (fun v => ⟨dp_own (dp_slice (dp_slice dp_int)), trivial⟩)
  unfold m_w_toIntSS at hm
  refine wp_seq (wp_region_lit (rn ha hs (sv (opT_assign (v := .slice none 0 0) rfl rfl) rfl rfl (enR (L' := [(0, va0)]) rfl ?_))))
  clear ha hs a w;intro a1 w1 A1 S1
  refine nrm (wp_seq (wp_region_lit (rn A1 S1 (sv (opT_move (v := va0) rfl rfl) rfl rfl (sv (opT_len_hd (v := va0) (n := p0a.length) (Hd.of_rd ra0) Try.underlying23 rfl rfl) rfl rfl ?_)))))
  obtain ⟨x1, hk1, hm⟩ := bind_some hm
  refine sop (opT_mk (E := 34) (R := rSlice 3 rInt) (zv := .slice none 0 0) (z := ([] : List Int)) zro_nil Try.underlying23 tz34 rfl rfl (by decide) (by decide) rfl rfl hk1) (List.Perm.refl _) rfl rfl ?_
  rintro v1 a2 w2 - A2 (S2 : St I w0 w2 [Ch.own (rSlice 34 (rSlice 3 rInt)) [v1] x1, F])
  clear A1 S1 a1 w1
  refine rn A2 S2 (sv (opT_assign (v := v1) rfl rfl) rfl rfl (enR (L' := [(0, va0), (3, v1)]) rfl ?_))
  clear A2 S2 a2 w2;intro a3 w3 A3 S3
  refine nrm (wp_seq (wp_seq (wp_region_lit (rn A3 S3 (sv (opT_assign (v := .int .i64 0) rfl rfl) rfl rfl (enR (L' := [(0, va0), (3, v1), (4, .int .i64 0)]) rfl ?_))))))
  clear A3 S3 a3 w3;intro a4 w4 A4 S4
  refine nrm ?_
  obtain ⟨o1, hl1, hc1⟩ := bindL_some hm
  refine wp_cut (fun a w => ∃ s4 : (List (List Int)) × Int, o1 = .brk s4 ∧ Agr 23 a [(3, v1)] ∧ St I w0 w [Ch.own (rSlice 34 (rSlice 3 rInt)) [v1] s4.1, F]) ?_ ?_
  · refine wp_block (wp_loopM (R := List (List Int)) (S := (List (List Int)) × Int) (fun s3 a w => Agr 23 a [(0, va0), (3, v1), (4, .int .i64 s3.2)] ∧ St I w0 w [Ch.own (rSlice 34 (rSlice 3 rInt)) [v1] s3.1, F]) hl1 ?_ ?_)
    · exact ⟨A4.pick' ⟨rfl, rfl, rfl, trivial⟩, St.sel S4 2 [0, 1] rfl rfl⟩
    rintro s3 o2 hm hf1 a15 w15 ⟨A15, S15⟩
    unfold m_w_toIntSS_l0 at hm
    refine wp_seq (wp_seq (wp_region_lit (rn A15 S15 (sv (opT_move (v := .int .i64 s3.2) rfl rfl) rfl rfl (sv (opT_move (v := va0) rfl rfl) rfl rfl (sv (opT_len_hd (v := va0) (n := p0a.length) (Hd.of_rd ra0) Try.underlying23 rfl rfl) rfl rfl (sv (opT_cmp (k := .i64) (m := s3.2) (n := (p0a.length : Int)) (c := decide (s3.2 < (p0a.length : Int))) rfl rfl rfl rfl rfl) rfl rfl (enR (L' := [(0, va0), (3, v1), (4, .int .i64 s3.2), (11, .bool (decide (s3.2 < (p0a.length : Int))))]) rfl ?_))))))))
    clear A15 S15 a15 w15;intro a16 w16 A16 S16
    refine nrm ?_
    rcases two (decide (s3.2 < (p0a.length : Int))) with hb3 | hb3
    · replace hm := ifFe hb3 hm
      refine cnd_false (b := decide (s3.2 < (p0a.length : Int))) A16 rfl rfl hb3 ?_
      exact wp_exit (thenX (thenX (ex_in (nrm (⟨_, loopBrk hm hf1, ⟨A16.pick' ⟨rfl, trivial⟩, St.sel S16 2 [0, 1] rfl rfl⟩⟩)))))
    replace hm := ifTe hb3 hm
    refine cnd_true (b := decide (s3.2 < (p0a.length : Int))) A16 rfl rfl hb3 ?_
    refine wp_skip (nrm (wp_seq (wp_block (wp_region_lit (rn A16 S16 (sv (opT_move (v := v1) rfl rfl) rfl rfl (sv (opT_move (v := .int .i64 s3.2) rfl rfl) rfl rfl (sv (opT_move (v := va0) rfl rfl) rfl rfl (sv (opT_move (v := .int .i64 s3.2) rfl rfl) rfl rfl ?_)))))))))
    obtain ⟨x6, e7, hm⟩ := bind_some hm
    refine sv (opT_index_hd (xs := p0a) (i := s3.2) (n := 1) (Hd.of_rd ra0) Try.underlying23 ti34 rfl rfl rfl (getI_in e7)) rfl rfl (so0 (opT_load_el (S := rSlice 3 rInt) (xs := p0a) (a := x6) (i := s3.2) (k := 1) (off := 0) (f := fun (x : List Int) => x) ra0 e7 Fld.self ti34 rfl rfl rfl rfl rfl) rfl rfl ?_)
    rintro v6 a17 w17 hf A17 S17
    have r5 := lds_sl hf
    clear hf
    clear A16 S16 a16 w16
    obtain ⟨r6, e8, hm⟩ := bind_some hm
    refine rn A17 S17 (sop (opT_call (args := #[v6]) (first := #[]) (captured := #[]) en66 rfl rfl rfl (c_w_toIntS x6 _ e8 v6 r5)) (List.Perm.refl _) rfl rfl ?_)
    rintro v7 a18 w18 - A18 (S18 : St I w0 w18 [Ch.own (rSlice 3 rInt) [v7] r6, Ch.own (rSlice 34 (rSlice 3 rInt)) [v1] s3.1, F])
    clear A17 S17 a17 w17
    obtain ⟨x7, e9, hm⟩ := bind_some hm
    refine rn A18 S18 (sv (opT_index_hd (xs := s3.1) (i := s3.2) (n := 1) (St.hd S18 1 rfl).1 Try.underlying23 ti34 rfl rfl rfl (getI_in e9)) rfl rfl (sop (opT_store_own (E := 34) (R := rSlice 3 rInt) (S := rSlice 3 rInt) (xs := s3.1) (a := x7) (b := r6) (i := s3.2) (k := 1) (off := 0) (f := fun x y => y) (v := v1) (d := [v7]) (u := v7) bun_own e9 UpdO.self ti34 rfl rfl rfl (Hd.cells (St.hd S18 0 rfl).1) (allC (Hd.one (St.hd S18 0 rfl).1) allN) rfl rfl rfl (by decide)) (perm_sel [1, 0, 2] (m := 3) rfl rfl) rfl rfl ?_))
    rintro _ a19 w19 - A19 (S19 : St I w0 w19 [Ch.own (rSlice 34 (rSlice 3 rInt)) [v1] (s3.1.set s3.2.toNat r6), F])
    clear A18 S18 a18 w18
    replace A19 := A19.pk (L' := [(0, va0), (3, v1), (4, .int .i64 s3.2)]) rfl
    refine wpList_nil (nrmB (nrm (wp_region_lit (rn A19 S19 (sv (opT_move (v := .int .i64 s3.2) rfl rfl) rfl rfl (sv (opT_add (m := s3.2) (n := 1) rfl rfl rfl) rfl rfl (sv (opT_assign (v := .int .i64 (IntKind.i64.wrap (s3.2 + 1))) rfl rfl) rfl rfl (enR (L' := [(0, va0), (3, v1), (4, .int .i64 (IntKind.i64.wrap (s3.2 + 1)))]) rfl ?_))))))))
    clear A19 S19 a19 w19;intro a20 w20 A20 S20
    exact nrm (⟨_, (Option.some.inj hm).symm, ⟨A20.pick' ⟨rfl, rfl, rfl, trivial⟩, St.sel S20 2 [0, 1] rfl rfl⟩⟩)
  rintro a21 w21 ⟨s4, ho1, A21, S21⟩
  replace hm := loopOut ho1 hc1
  clear ho1 hc1 hl1
  refine nrm (wp_seq (wp_region_lit (rn A21 S21 (sv (opT_move (v := v1) rfl rfl) rfl rfl (sv (opT_assign (v := v1) rfl rfl) rfl rfl (enR (L' := [(2, v1)]) rfl ?_))))))
  clear A21 S21 a21 w21;intro a22 w22 A22 S22
  refine nrm (wp_ret ?_)
  obtain rfl := Option.some.inj hm
  exact ret_1 A22 rfl (res_tmp A22 rfl) ⟨_, rfl, trivial, _, Hp.le.rfl, St.sel (S22) 2 [0, 1] rfl rfl⟩
theorem c_i_Automaton_minimize_1 (p0class : Int) (q0 : List Int) (r : Int) (hm : m_i_Automaton_minimize_1 p0class q0 = some r) {I : Hp} {w0 : World} (g0_0 : Nat) (va1 : Value) (rb0 : I g0_0 = some (.cells #[va1] 34 (0, 0))) (ra1 : (rSlice 3 rInt).rd I [va1] q0) : Con Try.prog 111 #[.int .i64 p0class, .pointer (some ⟨g0_0, 0, none⟩)] I w0 [] (fun v => v = .int .i64 r) (fun v => []) := by
  refine con_of_wp (n := 7) [(0, .int .i64 p0class), (1, .pointer (some ⟨g0_0, 0, none⟩))] Try.func111 rfl rfl (Nat.le_of_ble_eq_true rfl) (args_all ⟨rfl, rfl, trivial⟩) (fun F w a ha hs => ?_) (fun v => trivial)
  unfold m_i_Automaton_minimize_1 at hm
  refine wp_seq (wp_region_lit (rn ha hs (sv (opT_assign (v := .int .i64 0) rfl rfl) rfl rfl (enR (L' := [(0, .int .i64 p0class), (1, .pointer (some ⟨g0_0, 0, none⟩))]) rfl ?_))))
  clear ha hs a w;intro a1 w1 A1 S1
  refine nrm (wp_seq (wp_region_lit (rn A1 S1 (sv (opT_load_fro (g := g0_0) (off := 0) (l := [va1]) (d := [va1]) (u := va1) rb0 ti34 rfl rfl rfl rfl rfl rfl) rfl rfl (sv (opT_move (v := .int .i64 p0class) rfl rfl) rfl rfl ?_)))))
  obtain ⟨r1, e1, hm⟩ := bind_some hm
  refine so0 (opT_call (args := #[va1, .int .i64 p0class]) (first := #[]) (captured := #[]) en112 rfl rfl rfl (c_g_slices_Index_S_int_int q0 p0class _ e1 va1 ra1)) rfl rfl ?_
  rintro u a2 w2 hf A2 S2
  obtain rfl := Eq.symm hf
  clear A1 S1 a1 w1
  refine rn A2 S2 (sv (opT_assign (v := .int .i64 r1) rfl rfl) rfl rfl (enR (L' := [(3, .int .i64 r1)]) rfl ?_))
  clear A2 S2 a2 w2;intro a3 w3 A3 S3
  refine nrm (wp_ret ?_)
  obtain rfl := Option.some.inj hm
  exact ret_1 A3 rfl (res_tmp A3 rfl) ⟨_, rfl, rfl, _, Hp.le.rfl, St.sel (S3) 1 [0] rfl rfl⟩
end Go.Proofs.Ytcihbmdppgpmjaa.D
