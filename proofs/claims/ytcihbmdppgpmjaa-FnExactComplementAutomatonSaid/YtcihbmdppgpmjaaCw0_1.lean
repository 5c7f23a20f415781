/- Printed by dec.py: models of functions and the walks that show them. -/
import Derived.Test.YtcihbmdppgpmjaaCm
set_option linter.unusedVariables false
set_option linter.unusedSimpArgs false
set_option linter.unnecessarySimpa false
set_option maxRecDepth 100000
set_option maxHeartbeats 8000000
namespace Go.Proofs.Ytcihbmdppgpmjaa.D
open Go.RowKit
theorem c_i_numbered_int (p0 : Int) (p1 : Int) (p2 : Int → Option Bool) (p3 : Int → Int → Option (Int × Bool)) (r : (Int × (List Bool) × (List (List Int))) × Bool) (hm : m_i_numbered_int p0 p1 p2 p3 = some r) {I : Hp} {w0 : World} (va0 : Value) (va1 : Value) (ra0 : fn115 w0 I va0 p2) (ra1 : fn117 w0 I va1 p3) : Con Try.prog 98 #[.int .i64 p0, .int .i64 p1, va0, va1] I w0 [] (fun v => ∃ h0 h1 : Value, v = .tuple #[.agg #[.int .i64 r.1.1, h0, h1], .bool r.2]) (fun v => [Ch.own (rSlice 4 rBool) [vg v [0, 1]] r.1.2.1, Ch.own (rSlice 34 (rSlice 3 rInt)) [vg v [0, 2]] r.1.2.2]) := by
  refine con_of_wp (n := 96) [(0, .int .i64 p0), (1, .int .i64 p1), (2, va0), (3, va1)] Try.func98 rfl rfl (Nat.le_of_ble_eq_true rfl) (args_all ⟨rfl, rfl, rfl, rfl, trivial⟩) (fun F w a ha hs => ?_) (fun v => ⟨dp_own (dp_slice dp_bool), dp_own (dp_slice (dp_slice dp_int)), trivial⟩)
  unfold m_i_numbered_int at hm
  refine wp_seq (wp_region_lit (rn ha hs (sop (opT_alloc (l := [.int .i64 0, .slice none 0 0, .slice none 0 0]) tz27 rfl rfl) (List.Perm.refl _) rfl rfl ?_)))
  rintro _ a1 w1 ⟨g1, rfl⟩ A1 (S1 : St I w0 w1 [Ch.blk g1 [.int .i64 0, .slice none 0 0, .slice none 0 0] 27, F])
  clear ha hs a w
  refine rn A1 S1 (sv (opT_assign (v := .bool false) rfl rfl) rfl rfl (enR (L' := [(0, .int .i64 p0), (1, .int .i64 p1), (2, va0), (3, va1), (8, .pointer (some ⟨g1, 0, none⟩))]) rfl ?_))
  clear A1 S1 a1 w1;intro a2 w2 A2 S2
  refine nrm (wp_seq (wp_region_lit (rn A2 S2 (sv (opT_move (v := .int .i64 p0) rfl rfl) rfl rfl (sop (opT_lit_cpy (E := 3) (R := rInt) (S := rInt) [(.int .i64 p0, [.int .i64 p0])] [p0] cpy_int (rd_all ⟨rfl, trivial⟩) Try.underlying34 tz3 (by decide) rfl (by decide) (by decide) rfl rfl rfl rfl (us_all ⟨⟨rfl, rfl⟩, trivial⟩)) (List.Perm.refl _) rfl rfl ?_)))))
  rintro v1 a3 w3 - A3 (S3 : St I w0 w3 [Ch.own (rSlice 3 rInt) [v1] ([p0]), Ch.blk g1 [.int .i64 0, .slice none 0 0, .slice none 0 0] 27, F])
  clear A2 S2 a2 w2
  refine rn A3 S3 (sv (opT_assign (v := v1) rfl rfl) rfl rfl (enR (L' := [(0, .int .i64 p0), (1, .int .i64 p1), (2, va0), (3, va1), (8, .pointer (some ⟨g1, 0, none⟩)), (10, v1)]) rfl ?_))
  clear A3 S3 a3 w3;intro a4 w4 A4 S4
  refine nrm (wp_seq (wp_region_lit (rn A4 S4 (sop (opT_makeMap (k := 3) (e := 3) (lit := iLit) (ok := iOk) (elit := iLit) (z := 0) rfl) (List.Perm.refl _) rfl rfl ?_))))
  rintro v2 a5 w5 - A5 (S5 : St I w0 w5 [Ch.mp Try.prog 3 3 iLit iOk iLit 0 v2 ([] : List (Int × Int)), Ch.own (rSlice 3 rInt) [v1] ([p0]), Ch.blk g1 [.int .i64 0, .slice none 0 0, .slice none 0 0] 27, F])
  clear A4 S4 a4 w4
  refine rn A5 S5 (sv (opT_move (v := .int .i64 p0) rfl rfl) rfl rfl ?_)
  obtain ⟨m1, hk1, hm⟩ := bind_some hm
  refine sop (opT_putMap (v := v2) (q := p0) (i := 0) kk3 ek3 Try.underlying163 (.inr rfl) rfl rfl rfl hk1) (perm_front (i := 0) rfl) rfl rfl ?_
  rintro _ a6 w6 - A6 (S6 : St I w0 w6 [Ch.mp Try.prog 3 3 iLit iOk iLit 0 v2 m1, Ch.own (rSlice 3 rInt) [v1] ([p0]), Ch.blk g1 [.int .i64 0, .slice none 0 0, .slice none 0 0] 27, F])
  clear A5 S5 a5 w5
  refine rn A6 S6 (sv (opT_move (v := v2) rfl rfl) rfl rfl (sv (opT_assign (v := v2) rfl rfl) rfl rfl (enR (L' := [(1, .int .i64 p1), (2, va0), (3, va1), (8, .pointer (some ⟨g1, 0, none⟩)), (10, v1), (11, v2)]) rfl ?_)))
  clear A6 S6 a6 w6;intro a7 w7 A7 S7
  refine nrm (wp_seq (wp_region_lit (rn A7 S7 (sv (opT_build (zl := [.int .i64 0, .slice none 0 0, .slice none 0 0]) (r := [.int .i64 0, .slice none 0 0, .slice none 0 0]) [] tb27 tz27 rfl rfl trivial rfl) rfl rfl (sop (opT_alloc (l := [.int .i64 0, .slice none 0 0, .slice none 0 0]) tz27 rfl rfl) (List.Perm.refl _) rfl rfl ?_)))))
  rintro _ a8 w8 ⟨g2, rfl⟩ A8 (S8 : St I w0 w8 [Ch.blk g2 [.int .i64 0, .slice none 0 0, .slice none 0 0] 27, Ch.mp Try.prog 3 3 iLit iOk iLit 0 v2 m1, Ch.own (rSlice 3 rInt) [v1] ([p0]), Ch.blk g1 [.int .i64 0, .slice none 0 0, .slice none 0 0] 27, F])
  clear A7 S7 a7 w7
  refine rn A8 S8 (sop (opT_store_blk (g := g2) (off := 0) (l := [.int .i64 0, .slice none 0 0, .slice none 0 0]) (d := [.int .i64 0, .slice none 0 0, .slice none 0 0]) (E := 27) (u := .agg #[.int .i64 0, .slice none 0 0, .slice none 0 0]) ti27 rfl rfl rfl rfl rfl (allC rfl (allC rfl (allC rfl allN))) (Nat.le_of_ble_eq_true rfl)) (perm_front (i := 0) rfl) rfl rfl ?_)
  rintro _ a9 w9 - A9 (S9 : St I w0 w9 [Ch.blk g2 [.int .i64 0, .slice none 0 0, .slice none 0 0] 27, Ch.mp Try.prog 3 3 iLit iOk iLit 0 v2 m1, Ch.own (rSlice 3 rInt) [v1] ([p0]), Ch.blk g1 [.int .i64 0, .slice none 0 0, .slice none 0 0] 27, F])
  clear A8 S8 a8 w8
  replace A9 := A9.pk (L' := [(1, .int .i64 p1), (2, va0), (3, va1), (8, .pointer (some ⟨g1, 0, none⟩)), (10, v1), (11, v2), (12, .pointer (some ⟨g2, 0, none⟩))]) rfl
  refine wpList_nil (nrm (wp_seq (wp_seq (wp_region_lit (rn A9 S9 (sv (opT_assign (v := .int .i64 0) rfl rfl) rfl rfl (enR (L' := [(1, .int .i64 p1), (2, va0), (3, va1), (8, .pointer (some ⟨g1, 0, none⟩)), (10, v1), (11, v2), (12, .pointer (some ⟨g2, 0, none⟩)), (13, .int .i64 0)]) rfl ?_)))))))
  clear A9 S9 a9 w9;intro a10 w10 A10 S10
  refine nrm ?_
  obtain ⟨o23, hl3, hc21⟩ := bindL_some hm
  refine wp_cut (fun a w => ∃ s30 : (List Int) × (List (Int × Int)) × Int × (List Bool) × (List (List Int)), o23 = .brk s30 ∧ ∃ v148 v149 : Value, Agr 96 a [(8, .pointer (some ⟨g1, 0, none⟩)), (12, .pointer (some ⟨g2, 0, none⟩))] ∧ St I w0 w [Ch.own (rSlice 4 rBool) [v148] s30.2.2.2.1, Ch.own (rSlice 34 (rSlice 3 rInt)) [v149] s30.2.2.2.2, Ch.blk g1 [.int .i64 0, .slice none 0 0, .slice none 0 0] 27, Ch.blk g2 [.int .i64 0, v148, v149] 27, F]) ?_ ?_
  · refine wp_block (wp_loopM (R := (Int × (List Bool) × (List (List Int))) × Bool) (S := (List Int) × (List (Int × Int)) × Int × (List Bool) × (List (List Int))) (fun s29 a w => ∃ v150 v151 v152 : Value, Agr 96 a [(1, .int .i64 p1), (2, va0), (3, va1), (8, .pointer (some ⟨g1, 0, none⟩)), (10, v150), (11, v2), (12, .pointer (some ⟨g2, 0, none⟩)), (13, .int .i64 s29.2.2.1)] ∧ St I w0 w [Ch.own (rSlice 3 rInt) [v150] s29.1, Ch.mp Try.prog 3 3 iLit iOk iLit 0 v2 s29.2.1, Ch.own (rSlice 4 rBool) [v151] s29.2.2.2.1, Ch.own (rSlice 34 (rSlice 3 rInt)) [v152] s29.2.2.2.2, Ch.blk g1 [.int .i64 0, .slice none 0 0, .slice none 0 0] 27, Ch.blk g2 [.int .i64 0, v151, v152] 27, F]) hl3 ?_ ?_)
    · exact ⟨v1, (.slice none 0 0), (.slice none 0 0), A10.pick' ⟨rfl, rfl, rfl, rfl, rfl, rfl, rfl, rfl, trivial⟩, St.sel (St.nil (St.nil S10)) 7 [4, 3, 1, 0, 5, 2, 6] rfl rfl⟩
    rintro s29 o24 hm hf3 a357 w357 ⟨v150, v151, v152, A357, S357⟩
    unfold m_i_numbered_int_l0 at hm
    refine wp_seq (wp_seq (wp_region_lit (rn A357 S357 (sv (opT_move (v := .int .i64 s29.2.2.1) rfl rfl) rfl rfl (sv (opT_move (v := v150) rfl rfl) rfl rfl (sv (opT_len_hd (v := v150) (n := s29.1.length) (St.hd S357 0 rfl).1 Try.underlying34 rfl rfl) rfl rfl (sv (opT_cmp (k := .i64) (m := s29.2.2.1) (n := (s29.1.length : Int)) (c := decide (s29.2.2.1 < (s29.1.length : Int))) rfl rfl rfl rfl rfl) rfl rfl (enR (L' := [(1, .int .i64 p1), (2, va0), (3, va1), (8, .pointer (some ⟨g1, 0, none⟩)), (10, v150), (11, v2), (12, .pointer (some ⟨g2, 0, none⟩)), (13, .int .i64 s29.2.2.1), (29, .bool (decide (s29.2.2.1 < (s29.1.length : Int))))]) rfl ?_))))))))
    clear A357 S357 a357 w357;intro a358 w358 A358 S358
    refine nrm ?_
    rcases two (decide (s29.2.2.1 < (s29.1.length : Int))) with hb47 | hb47
    · replace hm := ifFe hb47 hm
      refine cnd_false (b := decide (s29.2.2.1 < (s29.1.length : Int))) A358 rfl rfl hb47 ?_
      exact wp_exit (thenX (thenX (ex_in (nrm (⟨_, loopBrk hm hf3, ⟨v151, v152, A358.pick' ⟨rfl, rfl, trivial⟩, St.sel S358 7 [2, 3, 4, 5, 6] rfl rfl⟩⟩)))))
    replace hm := ifTe hb47 hm
    refine cnd_true (b := decide (s29.2.2.1 < (s29.1.length : Int))) A358 rfl rfl hb47 ?_
    refine wp_skip (nrm (wp_seq (wp_block (wp_seq (wp_region_lit (rn A358 S358 (sop (opT_lit0 (E := 3) (R := rInt) Try.underlying34 ti3 rfl) (List.Perm.refl _) rfl rfl ?_)))))))
    rintro v153 a359 w359 - A359 (S359 : St I w0 w359 [Ch.own (rSlice 3 rInt) [v153] ([] : List Int), Ch.own (rSlice 3 rInt) [v150] s29.1, Ch.mp Try.prog 3 3 iLit iOk iLit 0 v2 s29.2.1, Ch.own (rSlice 4 rBool) [v151] s29.2.2.2.1, Ch.own (rSlice 34 (rSlice 3 rInt)) [v152] s29.2.2.2.2, Ch.blk g1 [.int .i64 0, .slice none 0 0, .slice none 0 0] 27, Ch.blk g2 [.int .i64 0, v151, v152] 27, F])
    clear A358 S358 a358 w358
    refine rn A359 S359 (sv (opT_assign (v := v153) rfl rfl) rfl rfl (enR (L' := [(1, .int .i64 p1), (2, va0), (3, va1), (8, .pointer (some ⟨g1, 0, none⟩)), (10, v150), (11, v2), (12, .pointer (some ⟨g2, 0, none⟩)), (13, .int .i64 s29.2.2.1), (14, v153)]) rfl ?_))
    clear A359 S359 a359 w359;intro a360 w360 A360 S360
    refine nrm (wp_seq (wp_seq (wp_region_lit (rn A360 S360 (sv (opT_assign (v := .int .i64 0) rfl rfl) rfl rfl (enR (L' := [(1, .int .i64 p1), (2, va0), (3, va1), (8, .pointer (some ⟨g1, 0, none⟩)), (10, v150), (11, v2), (12, .pointer (some ⟨g2, 0, none⟩)), (13, .int .i64 s29.2.2.1), (14, v153), (15, .int .i64 0)]) rfl ?_))))))
    clear A360 S360 a360 w360;intro a361 w361 A361 S361
    refine nrm ?_
    obtain ⟨o31, hl4, hc28⟩ := bindL_some hm
    refine wp_cut (fun a w => ∃ s40 : (List Int) × (List (Int × Int)) × (List Int) × Int, o31 = .brk s40 ∧ ∃ v196 v197 : Value, Agr 96 a [(1, .int .i64 p1), (2, va0), (3, va1), (8, .pointer (some ⟨g1, 0, none⟩)), (10, v196), (11, v2), (12, .pointer (some ⟨g2, 0, none⟩)), (13, .int .i64 s29.2.2.1), (14, v197)] ∧ St I w0 w [Ch.own (rSlice 3 rInt) [v196] s40.1, Ch.mp Try.prog 3 3 iLit iOk iLit 0 v2 s40.2.1, Ch.own (rSlice 3 rInt) [v197] s40.2.2.1, Ch.blk g1 [.int .i64 0, .slice none 0 0, .slice none 0 0] 27, Ch.blk g2 [.int .i64 0, v151, v152] 27, Ch.own (rSlice 4 rBool) [v151] s29.2.2.2.1, Ch.own (rSlice 34 (rSlice 3 rInt)) [v152] s29.2.2.2.2, F]) ?_ ?_
    · refine wp_block (wp_loopM (R := (Int × (List Bool) × (List (List Int))) × Bool) (S := (List Int) × (List (Int × Int)) × (List Int) × Int) (fun s39 a w => ∃ v198 v199 : Value, Agr 96 a [(1, .int .i64 p1), (2, va0), (3, va1), (8, .pointer (some ⟨g1, 0, none⟩)), (10, v198), (11, v2), (12, .pointer (some ⟨g2, 0, none⟩)), (13, .int .i64 s29.2.2.1), (14, v199), (15, .int .i64 s39.2.2.2)] ∧ St I w0 w [Ch.own (rSlice 3 rInt) [v198] s39.1, Ch.mp Try.prog 3 3 iLit iOk iLit 0 v2 s39.2.1, Ch.own (rSlice 3 rInt) [v199] s39.2.2.1, Ch.blk g1 [.int .i64 0, .slice none 0 0, .slice none 0 0] 27, Ch.blk g2 [.int .i64 0, v151, v152] 27, Ch.own (rSlice 4 rBool) [v151] s29.2.2.2.1, Ch.own (rSlice 34 (rSlice 3 rInt)) [v152] s29.2.2.2.2, F]) hl4 ?_ ?_)
      · exact ⟨v150, v153, A361.pick' ⟨rfl, rfl, rfl, rfl, rfl, rfl, rfl, rfl, rfl, rfl, trivial⟩, St.sel S361 8 [1, 2, 0, 5, 6, 3, 4, 7] rfl rfl⟩
      rintro s39 o32 hm hf4 a468 w468 ⟨v198, v199, A468, S468⟩
      unfold m_i_numbered_int_l1 at hm
      refine wp_seq (wp_seq (wp_region_lit (rn A468 S468 (sv (opT_move (v := .int .i64 s39.2.2.2) rfl rfl) rfl rfl (sv (opT_cmp (k := .i64) (m := s39.2.2.2) (n := 9) (c := decide (s39.2.2.2 < 9)) rfl rfl rfl rfl rfl) rfl rfl (enR (L' := [(1, .int .i64 p1), (2, va0), (3, va1), (8, .pointer (some ⟨g1, 0, none⟩)), (10, v198), (11, v2), (12, .pointer (some ⟨g2, 0, none⟩)), (13, .int .i64 s29.2.2.1), (14, v199), (15, .int .i64 s39.2.2.2), (34, .bool (decide (s39.2.2.2 < 9)))]) rfl ?_))))))
      clear A468 S468 a468 w468;intro a469 w469 A469 S469
      refine nrm ?_
      rcases two (decide (s39.2.2.2 < 9)) with hb62 | hb62
      · replace hm := ifFe hb62 hm
        refine cnd_false (b := decide (s39.2.2.2 < 9)) A469 rfl rfl hb62 ?_
        exact wp_exit (thenX (thenX (ex_in (nrm (⟨_, loopBrk hm hf4, ⟨v198, v199, A469.pick' ⟨rfl, rfl, rfl, rfl, rfl, rfl, rfl, rfl, rfl, trivial⟩, St.sel S469 8 [0, 1, 2, 3, 4, 5, 6, 7] rfl rfl⟩⟩)))))
      replace hm := ifTe hb62 hm
      refine cnd_true (b := decide (s39.2.2.2 < 9)) A469 rfl rfl hb62 ?_
      refine wp_skip (nrm ?_)
      obtain ⟨s42, hj26, hm⟩ := bind_some hm
      refine wp_seq_cut (fun a w => ∃ v209 v210 : Value, Agr 96 a [(1, .int .i64 p1), (2, va0), (3, va1), (8, .pointer (some ⟨g1, 0, none⟩)), (10, v209), (11, v2), (12, .pointer (some ⟨g2, 0, none⟩)), (13, .int .i64 s29.2.2.1), (14, v210), (15, .int .i64 s39.2.2.2)] ∧ St I w0 w [Ch.own (rSlice 3 rInt) [v209] s42.1, Ch.mp Try.prog 3 3 iLit iOk iLit 0 v2 s42.2.1, Ch.own (rSlice 3 rInt) [v210] s42.2.2, Ch.blk g1 [.int .i64 0, .slice none 0 0, .slice none 0 0] 27, Ch.blk g2 [.int .i64 0, v151, v152] 27, Ch.own (rSlice 4 rBool) [v151] s29.2.2.2.1, Ch.own (rSlice 34 (rSlice 3 rInt)) [v152] s29.2.2.2.2, F]) ?_ ?_
      · replace hm := hj26
        refine wp_block (wp_seq (wp_region_lit (rn A469 S469 (sv (opT_move (v := va1) rfl rfl) rfl rfl (sv (opT_move (v := v198) rfl rfl) rfl rfl (sv (opT_move (v := .int .i64 s29.2.2.1) rfl rfl) rfl rfl ?_))))))
        obtain ⟨x20, e111, hm⟩ := bind_some hm
        refine sv (opT_index_hd (xs := s39.1) (i := s29.2.2.1) (n := 1) (St.hd S469 0 rfl).1 Try.underlying34 ti3 rfl rfl rfl (getI_in e111)) rfl rfl (sop (opT_load_own (E := 3) (R := rInt) (S := rInt) (xs := s39.1) (a := x20) (i := s29.2.2.1) (k := 1) (off := 0) (f := fun (x : Int) => x) sh_int e111 Fld.self ti3 rfl rfl rfl rfl rfl) (perm_front (i := 0) rfl) rfl rfl ?_)
        rintro u a495 w495 hf A495 (S495 : St I w0 w495 [Ch.own (rSlice 3 rInt) [v198] s39.1, Ch.mp Try.prog 3 3 iLit iOk iLit 0 v2 s39.2.1, Ch.own (rSlice 3 rInt) [v199] s39.2.2.1, Ch.blk g1 [.int .i64 0, .slice none 0 0, .slice none 0 0] 27, Ch.blk g2 [.int .i64 0, v151, v152] 27, Ch.own (rSlice 4 rBool) [v151] s29.2.2.2.1, Ch.own (rSlice 34 (rSlice 3 rInt)) [v152] s29.2.2.2.2, F])
        obtain rfl := lds_one hf
        clear A469 S469 a469 w469
        refine rn A495 S495 (sv (opT_move (v := .int .i64 s39.2.2.2) rfl rfl) rfl rfl ?_)
        obtain ⟨r20, e112, hm⟩ := bind_some hm
        refine so0 (opT_call_clo (v := va1) (args := [.int .i64 x20, .int .i64 s39.2.2.2]) (ra1.2 _ Hp.le.rfl x20 s39.2.2.2 _ e112  ) rfl rfl rfl) rfl rfl ?_
        rintro u a496 w496 hf A496 S496
        obtain rfl := Eq.symm hf
        clear A495 S495 a495 w495
        refine rn A496 S496 (sv (opT_move (v := .tuple #[.int .i64 r20.1, .bool r20.2]) rfl rfl) rfl rfl (sv (opT_extract (vs := #[.int .i64 r20.1, .bool r20.2]) (v := .int .i64 r20.1) rfl rfl rfl) rfl rfl (sv (opT_extract (vs := #[.int .i64 r20.1, .bool r20.2]) (v := .bool r20.2) rfl rfl rfl) rfl rfl (sv (opT_assign (v := .int .i64 r20.1) rfl rfl) rfl rfl (sv (opT_assign (v := .bool r20.2) rfl rfl) rfl rfl (enR (L' := [(1, .int .i64 p1), (2, va0), (3, va1), (8, .pointer (some ⟨g1, 0, none⟩)), (10, v198), (11, v2), (12, .pointer (some ⟨g2, 0, none⟩)), (13, .int .i64 s29.2.2.1), (14, v199), (15, .int .i64 s39.2.2.2), (16, .int .i64 r20.1), (17, .bool r20.2)]) rfl ?_))))))
        clear A496 S496 a496 w496;intro a497 w497 A497 S497
        refine nrm (wp_seq (wp_seq (wp_region_lit (rn A497 S497 (sv (opT_move (v := .bool r20.2) rfl rfl) rfl rfl (sv (opT_not (b := r20.2) rfl rfl) rfl rfl (enR (L' := [(1, .int .i64 p1), (2, va0), (3, va1), (8, .pointer (some ⟨g1, 0, none⟩)), (10, v198), (11, v2), (12, .pointer (some ⟨g2, 0, none⟩)), (13, .int .i64 s29.2.2.1), (14, v199), (15, .int .i64 s39.2.2.2), (16, .int .i64 r20.1), (48, .bool (!r20.2))]) rfl ?_)))))))
        clear A497 S497 a497 w497;intro a498 w498 A498 S498
        refine nrm ?_
        rcases two (r20.2) with hb66 | hb66
        · replace hm := ifFe hb66 hm
          refine cnd_true (b := !r20.2) A498 rfl rfl (notT hb66) ?_
          refine wp_seq (wp_region_lit (rn A498 S498 (sv (opT_move (v := v199) rfl rfl) rfl rfl (sop (opT_lit_cpy (E := 3) (R := rInt) (S := rInt) [(.int .i64 (-1), [.int .i64 (-1)])] [-1] cpy_int (rd_all ⟨rfl, trivial⟩) Try.underlying34 tz3 (by decide) rfl (by decide) (by decide) rfl rfl rfl rfl (us_all ⟨⟨rfl, rfl⟩, trivial⟩)) (List.Perm.refl _) rfl rfl ?_))))
          rintro v211 a499 w499 - A499 (S499 : St I w0 w499 [Ch.own (rSlice 3 rInt) [v211] ([-1]), Ch.own (rSlice 3 rInt) [v198] s39.1, Ch.mp Try.prog 3 3 iLit iOk iLit 0 v2 s39.2.1, Ch.own (rSlice 3 rInt) [v199] s39.2.2.1, Ch.blk g1 [.int .i64 0, .slice none 0 0, .slice none 0 0] 27, Ch.blk g2 [.int .i64 0, v151, v152] 27, Ch.own (rSlice 4 rBool) [v151] s29.2.2.2.1, Ch.own (rSlice 34 (rSlice 3 rInt)) [v152] s29.2.2.2.2, F])
          clear A498 S498 a498 w498
          obtain ⟨z73, e113, hm⟩ := bind_some hm
          refine rn A499 S499 (sop (opT_app (E := 3) (R := rInt) (s := v199) (u := v211) e113 Try.underlying34 tz3 rfl (by decide) rfl (by decide) rfl rfl rfl) (perm_sel [3, 0, 1, 2, 4, 5, 6, 7, 8] (m := 9) rfl rfl) rfl rfl ?_)
          rintro v212 a500 w500 - A500 (S500 : St I w0 w500 [Ch.own (rSlice 3 rInt) [v212] z73, Ch.own (rSlice 3 rInt) [v198] s39.1, Ch.mp Try.prog 3 3 iLit iOk iLit 0 v2 s39.2.1, Ch.blk g1 [.int .i64 0, .slice none 0 0, .slice none 0 0] 27, Ch.blk g2 [.int .i64 0, v151, v152] 27, Ch.own (rSlice 4 rBool) [v151] s29.2.2.2.1, Ch.own (rSlice 34 (rSlice 3 rInt)) [v152] s29.2.2.2.2, F])
          clear A499 S499 a499 w499
          refine rn A500 S500 (sv (opT_assign (v := v212) rfl rfl) rfl rfl (enR (L' := [(1, .int .i64 p1), (2, va0), (3, va1), (8, .pointer (some ⟨g1, 0, none⟩)), (10, v198), (11, v2), (12, .pointer (some ⟨g2, 0, none⟩)), (13, .int .i64 s29.2.2.1), (14, v212), (15, .int .i64 s39.2.2.2)]) rfl ?_))
          clear A500 S500 a500 w500;intro a501 w501 A501 S501
          refine nrm (wp_exit (thenX (ex_in (nrm ?_))))
          obtain rfl := Option.some.inj hm
          exact ⟨v198, v212, A501.pick' ⟨rfl, rfl, rfl, rfl, rfl, rfl, rfl, rfl, rfl, rfl, trivial⟩, St.sel S501 8 [1, 2, 0, 3, 4, 5, 6, 7] rfl rfl⟩
        replace hm := ifTe hb66 hm
        refine cnd_false (b := !r20.2) A498 rfl rfl (notF hb66) ?_
        refine wp_skip (nrm (wp_seq (wp_region_lit (rn A498 S498 (sv (opT_move (v := v2) rfl rfl) rfl rfl (sv (opT_move (v := .int .i64 r20.1) rfl rfl) rfl rfl ?_))))))
        obtain ⟨_, hk53, hm⟩ := bind_some hm
        refine sop (opT_lookMap (v := v2) (q := r20.1) (M := s39.2.1) kk3 ek3 (chk_some hk53) Try.underlying163 rfl rfl rfl) (perm_front (i := 1) rfl) rfl rfl ?_
        rintro u a502 w502 hf A502 (S502 : St I w0 w502 [Ch.mp Try.prog 3 3 iLit iOk iLit 0 v2 s39.2.1, Ch.own (rSlice 3 rInt) [v198] s39.1, Ch.own (rSlice 3 rInt) [v199] s39.2.2.1, Ch.blk g1 [.int .i64 0, .slice none 0 0, .slice none 0 0] 27, Ch.blk g2 [.int .i64 0, v151, v152] 27, Ch.own (rSlice 4 rBool) [v151] s29.2.2.2.1, Ch.own (rSlice 34 (rSlice 3 rInt)) [v152] s29.2.2.2.2, F])
        obtain rfl := Eq.symm hf
        clear A498 S498 a498 w498
        refine rn A502 S502 (sv (opT_move (v := .tuple #[.int .i64 ((lkM s39.2.1 r20.1).getD 0), .bool ((lkM s39.2.1 r20.1).isSome)]) rfl rfl) rfl rfl (sv (opT_extract (vs := #[.int .i64 ((lkM s39.2.1 r20.1).getD 0), .bool ((lkM s39.2.1 r20.1).isSome)]) (v := .int .i64 ((lkM s39.2.1 r20.1).getD 0)) rfl rfl rfl) rfl rfl (sv (opT_extract (vs := #[.int .i64 ((lkM s39.2.1 r20.1).getD 0), .bool ((lkM s39.2.1 r20.1).isSome)]) (v := .bool ((lkM s39.2.1 r20.1).isSome)) rfl rfl rfl) rfl rfl (sv (opT_assign (v := .int .i64 ((lkM s39.2.1 r20.1).getD 0)) rfl rfl) rfl rfl (sv (opT_assign (v := .bool ((lkM s39.2.1 r20.1).isSome)) rfl rfl) rfl rfl (enR (L' := [(1, .int .i64 p1), (2, va0), (3, va1), (8, .pointer (some ⟨g1, 0, none⟩)), (10, v198), (11, v2), (12, .pointer (some ⟨g2, 0, none⟩)), (13, .int .i64 s29.2.2.1), (14, v199), (15, .int .i64 s39.2.2.2), (16, .int .i64 r20.1), (18, .int .i64 ((lkM s39.2.1 r20.1).getD 0)), (19, .bool ((lkM s39.2.1 r20.1).isSome))]) rfl ?_))))))
        clear A502 S502 a502 w502;intro a503 w503 A503 S503
        refine nrm ?_
        obtain ⟨s43, hj27, hm⟩ := bind_some hm
        refine wp_seq_cut (fun a w => ∃ v215 : Value, Agr 96 a [(1, .int .i64 p1), (2, va0), (3, va1), (8, .pointer (some ⟨g1, 0, none⟩)), (10, v215), (11, v2), (12, .pointer (some ⟨g2, 0, none⟩)), (13, .int .i64 s29.2.2.1), (14, v199), (15, .int .i64 s39.2.2.2), (18, .int .i64 s43.2.2)] ∧ St I w0 w [Ch.own (rSlice 3 rInt) [v215] s43.1, Ch.mp Try.prog 3 3 iLit iOk iLit 0 v2 s43.2.1, Ch.blk g1 [.int .i64 0, .slice none 0 0, .slice none 0 0] 27, Ch.blk g2 [.int .i64 0, v151, v152] 27, Ch.own (rSlice 4 rBool) [v151] s29.2.2.2.1, Ch.own (rSlice 34 (rSlice 3 rInt)) [v152] s29.2.2.2.2, Ch.own (rSlice 3 rInt) [v199] s39.2.2.1, F]) ?_ ?_
        · replace hm := hj27
          refine wp_seq (wp_region_lit (rn A503 S503 (sv (opT_move (v := .bool ((lkM s39.2.1 r20.1).isSome)) rfl rfl) rfl rfl (sv (opT_not (b := (lkM s39.2.1 r20.1).isSome) rfl rfl) rfl rfl (enR (L' := [(1, .int .i64 p1), (2, va0), (3, va1), (8, .pointer (some ⟨g1, 0, none⟩)), (10, v198), (11, v2), (12, .pointer (some ⟨g2, 0, none⟩)), (13, .int .i64 s29.2.2.1), (14, v199), (15, .int .i64 s39.2.2.2), (16, .int .i64 r20.1), (18, .int .i64 ((lkM s39.2.1 r20.1).getD 0)), (59, .bool (!((lkM s39.2.1 r20.1).isSome)))]) rfl ?_)))))
          clear A503 S503 a503 w503;intro a510 w510 A510 S510
          refine nrm ?_
          rcases two ((lkM s39.2.1 r20.1).isSome) with hb68 | hb68
          · replace hm := ifFe hb68 hm
            refine cnd_true (b := !((lkM s39.2.1 r20.1).isSome)) A510 rfl rfl (notT hb68) ?_
            refine wp_seq (wp_region_lit (rn A510 S510 (sv (opT_move (v := v198) rfl rfl) rfl rfl (sv (opT_len_hd (v := v198) (n := s39.1.length) (St.hd S510 1 rfl).1 Try.underlying34 rfl rfl) rfl rfl (sv (opT_assign (v := .int .i64 (s39.1.length : Int)) rfl rfl) rfl rfl (enR (L' := [(1, .int .i64 p1), (2, va0), (3, va1), (8, .pointer (some ⟨g1, 0, none⟩)), (10, v198), (11, v2), (12, .pointer (some ⟨g2, 0, none⟩)), (13, .int .i64 s29.2.2.1), (14, v199), (15, .int .i64 s39.2.2.2), (16, .int .i64 r20.1), (18, .int .i64 (s39.1.length : Int))]) rfl ?_))))))
            clear A510 S510 a510 w510;intro a511 w511 A511 S511
            refine nrm (wp_seq (wp_region_lit (rn A511 S511 (sv (opT_move (v := v2) rfl rfl) rfl rfl (sv (opT_move (v := .int .i64 r20.1) rfl rfl) rfl rfl (sv (opT_move (v := .int .i64 (s39.1.length : Int)) rfl rfl) rfl rfl ?_))))))
            obtain ⟨m37, hk55, hm⟩ := bind_some hm
            refine sop (opT_putMap (v := v2) (q := r20.1) (i := (s39.1.length : Int)) kk3 ek3 Try.underlying163 (.inl rfl) rfl rfl rfl hk55) (perm_front (i := 0) rfl) rfl rfl ?_
            rintro _ a512 w512 - A512 (S512 : St I w0 w512 [Ch.mp Try.prog 3 3 iLit iOk iLit 0 v2 m37, Ch.own (rSlice 3 rInt) [v198] s39.1, Ch.own (rSlice 3 rInt) [v199] s39.2.2.1, Ch.blk g1 [.int .i64 0, .slice none 0 0, .slice none 0 0] 27, Ch.blk g2 [.int .i64 0, v151, v152] 27, Ch.own (rSlice 4 rBool) [v151] s29.2.2.2.1, Ch.own (rSlice 34 (rSlice 3 rInt)) [v152] s29.2.2.2.2, F])
            clear A511 S511 a511 w511
            replace A512 := A512.pk (L' := [(1, .int .i64 p1), (2, va0), (3, va1), (8, .pointer (some ⟨g1, 0, none⟩)), (10, v198), (11, v2), (12, .pointer (some ⟨g2, 0, none⟩)), (13, .int .i64 s29.2.2.1), (14, v199), (15, .int .i64 s39.2.2.2), (16, .int .i64 r20.1), (18, .int .i64 (s39.1.length : Int))]) rfl
            refine wpList_nil (nrm (wp_region_lit (rn A512 S512 (sv (opT_move (v := v198) rfl rfl) rfl rfl (sv (opT_move (v := .int .i64 r20.1) rfl rfl) rfl rfl (sop (opT_lit_cpy (E := 3) (R := rInt) (S := rInt) [(.int .i64 r20.1, [.int .i64 r20.1])] [r20.1] cpy_int (rd_all ⟨rfl, trivial⟩) Try.underlying34 tz3 (by decide) rfl (by decide) (by decide) rfl rfl rfl rfl (us_all ⟨⟨rfl, rfl⟩, trivial⟩)) (List.Perm.refl _) rfl rfl ?_))))))
            rintro v216 a513 w513 - A513 (S513 : St I w0 w513 [Ch.own (rSlice 3 rInt) [v216] ([r20.1]), Ch.mp Try.prog 3 3 iLit iOk iLit 0 v2 m37, Ch.own (rSlice 3 rInt) [v198] s39.1, Ch.own (rSlice 3 rInt) [v199] s39.2.2.1, Ch.blk g1 [.int .i64 0, .slice none 0 0, .slice none 0 0] 27, Ch.blk g2 [.int .i64 0, v151, v152] 27, Ch.own (rSlice 4 rBool) [v151] s29.2.2.2.1, Ch.own (rSlice 34 (rSlice 3 rInt)) [v152] s29.2.2.2.2, F])
            clear A512 S512 a512 w512
            obtain ⟨z75, e115, hm⟩ := bind_some hm
            refine rn A513 S513 (sop (opT_app (E := 3) (R := rInt) (s := v198) (u := v216) e115 Try.underlying34 tz3 rfl (by decide) rfl (by decide) rfl rfl rfl) (perm_sel [2, 0, 1, 3, 4, 5, 6, 7, 8] (m := 9) rfl rfl) rfl rfl ?_)
            rintro v217 a514 w514 - A514 (S514 : St I w0 w514 [Ch.own (rSlice 3 rInt) [v217] z75, Ch.mp Try.prog 3 3 iLit iOk iLit 0 v2 m37, Ch.own (rSlice 3 rInt) [v199] s39.2.2.1, Ch.blk g1 [.int .i64 0, .slice none 0 0, .slice none 0 0] 27, Ch.blk g2 [.int .i64 0, v151, v152] 27, Ch.own (rSlice 4 rBool) [v151] s29.2.2.2.1, Ch.own (rSlice 34 (rSlice 3 rInt)) [v152] s29.2.2.2.2, F])
            clear A513 S513 a513 w513
            refine rn A514 S514 (sv (opT_assign (v := v217) rfl rfl) rfl rfl (enR (L' := [(1, .int .i64 p1), (2, va0), (3, va1), (8, .pointer (some ⟨g1, 0, none⟩)), (10, v217), (11, v2), (12, .pointer (some ⟨g2, 0, none⟩)), (13, .int .i64 s29.2.2.1), (14, v199), (15, .int .i64 s39.2.2.2), (18, .int .i64 (s39.1.length : Int))]) rfl ?_))
            clear A514 S514 a514 w514;intro a515 w515 A515 S515
            refine nrm ?_
            obtain rfl := Option.some.inj hm
            exact ⟨v217, A515.pick' ⟨rfl, rfl, rfl, rfl, rfl, rfl, rfl, rfl, rfl, rfl, rfl, trivial⟩, St.sel S515 8 [0, 1, 3, 4, 5, 6, 2, 7] rfl rfl⟩
          replace hm := ifTe hb68 hm
          refine cnd_false (b := !((lkM s39.2.1 r20.1).isSome)) A510 rfl rfl (notF hb68) ?_
          refine wp_skip (nrm ?_)
          obtain rfl := Option.some.inj hm
          exact ⟨v198, A510.pick' ⟨rfl, rfl, rfl, rfl, rfl, rfl, rfl, rfl, rfl, rfl, rfl, trivial⟩, St.sel S510 8 [1, 0, 3, 4, 5, 6, 2, 7] rfl rfl⟩
        rintro a516 w516 ⟨v215, A516, S516⟩
        refine wp_region_lit (rn A516 S516 (sv (opT_move (v := v199) rfl rfl) rfl rfl (sv (opT_move (v := .int .i64 s43.2.2) rfl rfl) rfl rfl (sop (opT_lit_cpy (E := 3) (R := rInt) (S := rInt) [(.int .i64 s43.2.2, [.int .i64 s43.2.2])] [s43.2.2] cpy_int (rd_all ⟨rfl, trivial⟩) Try.underlying34 tz3 (by decide) rfl (by decide) (by decide) rfl rfl rfl rfl (us_all ⟨⟨rfl, rfl⟩, trivial⟩)) (List.Perm.refl _) rfl rfl ?_))))
        rintro v218 a517 w517 - A517 (S517 : St I w0 w517 [Ch.own (rSlice 3 rInt) [v218] ([s43.2.2]), Ch.own (rSlice 3 rInt) [v215] s43.1, Ch.mp Try.prog 3 3 iLit iOk iLit 0 v2 s43.2.1, Ch.blk g1 [.int .i64 0, .slice none 0 0, .slice none 0 0] 27, Ch.blk g2 [.int .i64 0, v151, v152] 27, Ch.own (rSlice 4 rBool) [v151] s29.2.2.2.1, Ch.own (rSlice 34 (rSlice 3 rInt)) [v152] s29.2.2.2.2, Ch.own (rSlice 3 rInt) [v199] s39.2.2.1, F])
        clear A516 S516 a516 w516
        obtain ⟨z76, e116, hm⟩ := bind_some hm
        refine rn A517 S517 (sop (opT_app (E := 3) (R := rInt) (s := v199) (u := v218) e116 Try.underlying34 tz3 rfl (by decide) rfl (by decide) rfl rfl rfl) (perm_sel [7, 0, 1, 2, 3, 4, 5, 6, 8] (m := 9) rfl rfl) rfl rfl ?_)
        rintro v219 a518 w518 - A518 (S518 : St I w0 w518 [Ch.own (rSlice 3 rInt) [v219] z76, Ch.own (rSlice 3 rInt) [v215] s43.1, Ch.mp Try.prog 3 3 iLit iOk iLit 0 v2 s43.2.1, Ch.blk g1 [.int .i64 0, .slice none 0 0, .slice none 0 0] 27, Ch.blk g2 [.int .i64 0, v151, v152] 27, Ch.own (rSlice 4 rBool) [v151] s29.2.2.2.1, Ch.own (rSlice 34 (rSlice 3 rInt)) [v152] s29.2.2.2.2, F])
        clear A517 S517 a517 w517
        refine rn A518 S518 (sv (opT_assign (v := v219) rfl rfl) rfl rfl (enR (L' := [(1, .int .i64 p1), (2, va0), (3, va1), (8, .pointer (some ⟨g1, 0, none⟩)), (10, v215), (11, v2), (12, .pointer (some ⟨g2, 0, none⟩)), (13, .int .i64 s29.2.2.1), (14, v219), (15, .int .i64 s39.2.2.2)]) rfl ?_))
        clear A518 S518 a518 w518;intro a519 w519 A519 S519
        refine nrmB (nrm ?_)
        obtain rfl := Option.some.inj hm
        exact ⟨v215, v219, A519.pick' ⟨rfl, rfl, rfl, rfl, rfl, rfl, rfl, rfl, rfl, rfl, trivial⟩, St.sel S519 8 [1, 2, 0, 3, 4, 5, 6, 7] rfl rfl⟩
      rintro a520 w520 ⟨v209, v210, A520, S520⟩
      refine wp_region_lit (rn A520 S520 (sv (opT_move (v := .int .i64 s39.2.2.2) rfl rfl) rfl rfl (sv (opT_add (m := s39.2.2.2) (n := 1) rfl rfl rfl) rfl rfl (sv (opT_assign (v := .int .i64 (IntKind.i64.wrap (s39.2.2.2 + 1))) rfl rfl) rfl rfl (enR (L' := [(1, .int .i64 p1), (2, va0), (3, va1), (8, .pointer (some ⟨g1, 0, none⟩)), (10, v209), (11, v2), (12, .pointer (some ⟨g2, 0, none⟩)), (13, .int .i64 s29.2.2.1), (14, v210), (15, .int .i64 (IntKind.i64.wrap (s39.2.2.2 + 1)))]) rfl ?_)))))
      clear A520 S520 a520 w520;intro a521 w521 A521 S521
      exact nrm (⟨_, (Option.some.inj hm).symm, ⟨v209, v210, A521.pick' ⟨rfl, rfl, rfl, rfl, rfl, rfl, rfl, rfl, rfl, rfl, trivial⟩, St.sel S521 8 [0, 1, 2, 3, 4, 5, 6, 7] rfl rfl⟩⟩)
    rintro a522 w522 ⟨s40, ho30, v196, v197, A522, S522⟩
    replace hm := loopOut ho30 hc28
    clear ho30 hc28 hl4
    refine nrm (wp_seq (wp_seq (wp_region_lit (rn A522 S522 (sv (opT_move (v := v196) rfl rfl) rfl rfl (sv (opT_len_hd (v := v196) (n := s40.1.length) (St.hd S522 0 rfl).1 Try.underlying34 rfl rfl) rfl rfl (sv (opT_move (v := .int .i64 p1) rfl rfl) rfl rfl (sv (opT_cmp (k := .i64) (m := (s40.1.length : Int)) (n := p1) (c := decide ((s40.1.length : Int) > p1)) rfl rfl rfl rfl rfl) rfl rfl (enR (L' := [(1, .int .i64 p1), (2, va0), (3, va1), (8, .pointer (some ⟨g1, 0, none⟩)), (10, v196), (11, v2), (12, .pointer (some ⟨g2, 0, none⟩)), (13, .int .i64 s29.2.2.1), (14, v197), (76, .bool (decide ((s40.1.length : Int) > p1)))]) rfl ?_)))))))))
    clear A522 S522 a522 w522;intro a523 w523 A523 S523
    refine nrm ?_
    rcases two (decide ((s40.1.length : Int) > p1)) with hb69 | hb69
    · replace hm := ifFe hb69 hm
      refine cnd_false (b := decide ((s40.1.length : Int) > p1)) A523 rfl rfl hb69 ?_
      refine wp_skip (nrm (wp_seq ?_))
      obtain ⟨x21, e117, hm⟩ := bind_some hm
      have hd1 := (St.hd S523 0 rfl).1
      obtain ⟨r21, e118, hm⟩ := bind_some hm
      obtain ⟨z77, e119, hm⟩ := bind_some hm
      refine wp_draw (L := [(1, .int .i64 p1), (2, va0), (3, va1), (8, .pointer (some ⟨g1, 0, none⟩)), (10, v196), (11, v2), (12, .pointer (some ⟨g2, 0, none⟩)), (13, .int .i64 s29.2.2.1), (14, v197), (76, .bool (decide ((s40.1.length : Int) > p1)))]) (C := [Ch.mp Try.prog 3 3 iLit iOk iLit 0 v2 s40.2.1, Ch.own (rSlice 3 rInt) [v197] s40.2.2.1, Ch.blk g1 [.int .i64 0, .slice none 0 0, .slice none 0 0] 27, Ch.own (rSlice 34 (rSlice 3 rInt)) [v152] s29.2.2.2.2, F]) { ops := [⟨[], [], [], [0], fun | [xo0] => xo0 = .pointer (some ⟨g2, 1, none⟩) | _ => True, [(12, none)]⟩, ⟨[0], [], [], [1], fun | [xo1] => xo1 = v151 | _ => True, [(78, some 0)]⟩, ⟨[], [], [], [2], fun | [xo2] => xo2 = va0 | _ => True, [(2, none)]⟩, ⟨[], [], [], [3], fun | [xo3] => xo3 = v196 | _ => True, [(10, none)]⟩, ⟨[], [], [], [4], fun | [xo4] => xo4 = .int .i64 s29.2.2.1 | _ => True, [(13, none)]⟩, ⟨[], [], [], [5], fun | [xo5] => xo5 = pt v196 (s29.2.2.1.toNat * 1) | _ => True, [(81, some 3), (82, some 4)]⟩, ⟨[1], [], [], [6], fun | [xo6] => xo6 = .int .i64 x21 | _ => True, [(83, some 5)]⟩, ⟨[], [], [], [7], fun | [xo7] => xo7 = .bool r21 | _ => True, [(80, some 2), (84, some 6)]⟩, ⟨[], [], [3], [8], fun | [xo8] => Hd xo8 ([r21]).length | _ => True, [(85, some 7)]⟩, ⟨[], [2, 3], [4], [9], fun | [xo9] => Hd xo9 (z77).length | _ => True, [(79, some 1), (86, some 8)]⟩, ⟨[], [], [], [10], fun | [xo10] => xo10 = .pointer (some ⟨g2, 1, none⟩) | _ => True, [(12, none)]⟩, ⟨[], [0], [5], [11], fun | [xo11] => True | _ => True, [(88, some 10), (87, some 9)]⟩], res := [⟨[], fun _ => Ch.blk g2 [.int .i64 0, v151, v152] 27⟩, ⟨[], fun _ => Ch.own (rSlice 3 rInt) [v196] s40.1⟩, ⟨[], fun _ => Ch.own (rSlice 4 rBool) [v151] s29.2.2.2.1⟩, ⟨[8], fun | [xo8] => Ch.own (rSlice 4 rBool) [xo8] ([r21]) | _ => Ch.fr (fun _ => none) []⟩, ⟨[9], fun | [xo9] => Ch.own (rSlice 4 rBool) [xo9] z77 | _ => Ch.fr (fun _ => none) []⟩, ⟨[9], fun | [xo9] => Ch.blk g2 [.int .i64 0, xo9, v152] 27 | _ => Ch.fr (fun _ => none) []⟩], base := [0, 1, 2], pre := [[], [0], [], [], [], [3, 4], [3, 4, 5], [2, 3, 4, 5, 6], [2, 3, 4, 5, 6, 7], [0, 1, 2, 3, 4, 5, 6, 7, 8], [0, 1, 2, 3, 4, 5, 6, 7, 8, 9], [0, 1, 2, 3, 4, 5, 6, 7, 8, 9, 10]], fin := [(1, none), (2, none), (3, none), (8, none), (10, none), (11, none), (12, none), (13, none), (14, none)], left := [1, 4, 5] } (by kernel_rfl) A523 S523 (perm_sel [4, 0, 5, 1, 2, 3, 6, 7] (m := 8) rfl rfl) (by kernel_rfl) (by kernel_rfl) ?_ ?_
      · exact ⟨Plan.goal_run fun vs hf => ⟨wants_none rfl, OpT.conv (OpT.evs (ev' := evL [(12, .pointer (some ⟨g2, 0, none⟩))]) (opT_field_addr (g := g2) (b := 0) tf27_1 rfl rfl) rfl [.tmp 12] rfl ⟨rfl, trivial⟩) rfl (fun _ h => Eq.trans h rfl) (fun _ => rfl)⟩, Plan.goal_run fun vs hf => ⟨wants_none rfl, OpT.conv (OpT.evs (ev' := evL [(78, .pointer (some ⟨g2, 1, none⟩))]) (opT_load_blk (g := g2) (off := 1) (E := 27) (l := [.int .i64 0, v151, v152]) (d := [v151]) (u := v151) ti22 rfl rfl rfl rfl rfl rfl) rfl [.tmp 78] rfl ⟨(hf 0 (mb rfl)), trivial⟩) rfl (fun _ h => Eq.trans h rfl) (fun _ => rfl)⟩, Plan.goal_run fun vs hf => ⟨wants_none rfl, OpT.conv (OpT.evs (ev' := evL [(2, va0)]) (opT_move (v := va0) rfl rfl) rfl [.tmp 2] rfl ⟨rfl, trivial⟩) rfl (fun _ h => Eq.trans h rfl) (fun _ => rfl)⟩, Plan.goal_run fun vs hf => ⟨wants_none rfl, OpT.conv (OpT.evs (ev' := evL [(10, v196)]) (opT_move (v := v196) rfl rfl) rfl [.tmp 10] rfl ⟨rfl, trivial⟩) rfl (fun _ h => Eq.trans h rfl) (fun _ => rfl)⟩, Plan.goal_run fun vs hf => ⟨wants_none rfl, OpT.conv (OpT.evs (ev' := evL [(13, .int .i64 s29.2.2.1)]) (opT_move (v := .int .i64 s29.2.2.1) rfl rfl) rfl [.tmp 13] rfl ⟨rfl, trivial⟩) rfl (fun _ h => Eq.trans h rfl) (fun _ => rfl)⟩, Plan.goal_run fun vs hf => ⟨wants_none rfl, OpT.conv (OpT.evs (ev' := evL [(81, v196), (82, .int .i64 s29.2.2.1)]) (opT_index_hd (xs := s40.1) (i := s29.2.2.1) (n := 1) hd1 Try.underlying34 ti3 rfl rfl rfl (getI_in e117)) rfl [.tmp 81, .tmp 82] rfl ⟨(hf 3 (mb rfl)), (hf 4 (mb rfl)), trivial⟩) rfl (fun _ h => Eq.trans h rfl) (fun _ => rfl)⟩, Plan.goal_run fun vs hf => ⟨wants_none rfl, OpT.conv (OpT.evs (ev' := evL [(83, pt v196 (s29.2.2.1.toNat * 1))]) (opT_load_own (E := 3) (R := rInt) (S := rInt) (xs := s40.1) (a := x21) (i := s29.2.2.1) (k := 1) (off := 0) (f := fun (x : Int) => x) sh_int e117 Fld.self ti3 rfl rfl rfl rfl rfl) rfl [.tmp 83] rfl ⟨(hf 5 (mb rfl)), trivial⟩) rfl (fun _ h => lds_one h) (fun _ => rfl)⟩, Plan.goal_run fun vs hf => ⟨wants_none rfl, OpT.conv (OpT.evs (ev' := evL [(80, va0), (84, .int .i64 x21)]) (opT_call_clo (v := va0) (args := [.int .i64 x21]) (ra0.2 _ Hp.le.rfl x21 _ e118  ) rfl rfl rfl) rfl [.tmp 80, .tmp 84] rfl ⟨(hf 2 (mb rfl)), (hf 6 (mb rfl)), trivial⟩) rfl (fun _ h => h) (fun _ => rfl)⟩, Plan.goal_run fun vs hf => ⟨wants_none rfl, OpT.conv (OpT.evs (ev' := evL [(85, .bool r21)]) (OpT.hdk (E := 4) (R := rBool) (xs := [r21]) (fun v => v) 0 (fun _ => rfl) (opT_lit_cpy (E := 4) (R := rBool) (S := rBool) [(.bool r21, [.bool r21])] [r21] cpy_bool (rd_all ⟨rfl, trivial⟩) Try.underlying22 tz4 (by decide) rfl (by decide) (by decide) rfl rfl rfl rfl (us_all ⟨⟨rfl, rfl⟩, trivial⟩))) rfl [.tmp 85] rfl ⟨(hf 7 (mb rfl)), trivial⟩) rfl (fun _ h => h.2) (fun _ => rfl)⟩, Plan.goal_run fun vs hf => ⟨wants_none rfl, OpT.conv (OpT.evs (ev' := evL [(79, v151), (86, (vs 8))]) (OpT.hdk (E := 4) (R := rBool) (xs := z77) (fun v => v) 0 (fun _ => rfl) (opT_app (E := 4) (R := rBool) (s := v151) (u := (vs 8)) e119 Try.underlying22 tz4 rfl (by decide) rfl (by decide) rfl rfl rfl)) rfl [.tmp 79, .tmp 86] rfl ⟨(hf 1 (mb rfl)), rfl, trivial⟩) rfl (fun _ h => h.2) (fun _ => rfl)⟩, Plan.goal_run fun vs hf => ⟨wants_none rfl, OpT.conv (OpT.evs (ev' := evL [(12, .pointer (some ⟨g2, 0, none⟩))]) (opT_field_addr (g := g2) (b := 0) tf27_1 rfl rfl) rfl [.tmp 12] rfl ⟨rfl, trivial⟩) rfl (fun _ h => Eq.trans h rfl) (fun _ => rfl)⟩, Plan.goal_run fun vs hf => ⟨wants_none rfl, OpT.conv (OpT.evs (ev' := evL [(88, .pointer (some ⟨g2, 1, none⟩)), (87, (vs 9))]) (opT_store_blk (g := g2) (off := 1) (l := [.int .i64 0, v151, v152]) (d := [(vs 9)]) (E := 27) (u := (vs 9)) ti22 rfl rfl rfl (Hd.cells (show Hd (vs 9) (z77).length from (hf 9 (mb rfl)))) rfl (allC (Hd.one (show Hd (vs 9) (z77).length from (hf 9 (mb rfl)))) allN) (Nat.le_of_ble_eq_true rfl)) rfl [.tmp 88, .tmp 87] rfl ⟨(hf 10 (mb rfl)), rfl, trivial⟩) rfl (fun _ _ => trivial) (fun _ => rfl)⟩, trivial⟩
      intro vs a524 w524 hf A524 S524
      clear A523 S523
      replace A524 := A524.pick' (L' := [(1, .int .i64 p1), (2, va0), (3, va1), (8, .pointer (some ⟨g1, 0, none⟩)), (10, v196), (11, v2), (12, .pointer (some ⟨g2, 0, none⟩)), (13, .int .i64 s29.2.2.1), (14, v197)]) ⟨rfl, rfl, rfl, rfl, rfl, rfl, rfl, rfl, rfl, trivial⟩
      replace S524 : St I w0 w524 [Ch.own (rSlice 3 rInt) [v196] s40.1, Ch.own (rSlice 4 rBool) [(vs 9)] z77, Ch.blk g2 [.int .i64 0, (vs 9), v152] 27, Ch.mp Try.prog 3 3 iLit iOk iLit 0 v2 s40.2.1, Ch.own (rSlice 3 rInt) [v197] s40.2.2.1, Ch.blk g1 [.int .i64 0, .slice none 0 0, .slice none 0 0] 27, Ch.own (rSlice 34 (rSlice 3 rInt)) [v152] s29.2.2.2.2, F] := S524
      obtain ⟨v221, ea1⟩ : ∃ x, x = (vs 9) := ⟨_, rfl⟩
      try rw [← ea1] at A524
      try rw [← ea1] at S524
      clear ea1
      clear hf vs
      refine nrm (wp_region_lit (rn A524 S524 (sv (opT_field_addr (g := g2) (b := 0) tf27_2 rfl rfl) rfl rfl (sop (opT_load_blk (g := g2) (off := 2) (E := 27) (l := [.int .i64 0, v221, v152]) (d := [v152]) (u := v152) ti23 rfl rfl rfl rfl rfl rfl) (perm_front (i := 2) rfl) rfl rfl ?_))))
      rintro u a525 w525 hf A525 (S525 : St I w0 w525 [Ch.blk g2 [.int .i64 0, v221, v152] 27, Ch.own (rSlice 3 rInt) [v196] s40.1, Ch.own (rSlice 4 rBool) [v221] z77, Ch.mp Try.prog 3 3 iLit iOk iLit 0 v2 s40.2.1, Ch.own (rSlice 3 rInt) [v197] s40.2.2.1, Ch.blk g1 [.int .i64 0, .slice none 0 0, .slice none 0 0] 27, Ch.own (rSlice 34 (rSlice 3 rInt)) [v152] s29.2.2.2.2, F])
      obtain rfl := Eq.symm hf
      clear A524 S524 a524 w524
      refine rn A525 S525 (sv (opT_move (v := v197) rfl rfl) rfl rfl (sop (opT_lit (E := 34) (R := rSlice 3 rInt) [(v197, [v197])] [s40.2.2.1] Try.underlying23 tz34 (by decide) rfl (by decide) (by decide) rfl rfl rfl rfl (us_all ⟨⟨(Hd.cells (St.hd S525 4 rfl).1), rfl⟩, trivial⟩)) (perm_front (i := 4) rfl) rfl rfl ?_))
      rintro v222 a526 w526 - A526 (S526 : St I w0 w526 [Ch.own (rSlice 34 (rSlice 3 rInt)) [v222] ([s40.2.2.1]), Ch.blk g2 [.int .i64 0, v221, v152] 27, Ch.own (rSlice 3 rInt) [v196] s40.1, Ch.own (rSlice 4 rBool) [v221] z77, Ch.mp Try.prog 3 3 iLit iOk iLit 0 v2 s40.2.1, Ch.blk g1 [.int .i64 0, .slice none 0 0, .slice none 0 0] 27, Ch.own (rSlice 34 (rSlice 3 rInt)) [v152] s29.2.2.2.2, F])
      clear A525 S525 a525 w525
      obtain ⟨z78, e120, hm⟩ := bind_some hm
      refine rn A526 S526 (sop (opT_app (E := 34) (R := rSlice 3 rInt) (s := v152) (u := v222) e120 Try.underlying23 tz34 rfl (by decide) rfl (by decide) rfl rfl rfl) (perm_sel [6, 0, 1, 2, 3, 4, 5, 7] (m := 8) rfl rfl) rfl rfl ?_)
      rintro v223 a527 w527 - A527 (S527 : St I w0 w527 [Ch.own (rSlice 34 (rSlice 3 rInt)) [v223] z78, Ch.blk g2 [.int .i64 0, v221, v152] 27, Ch.own (rSlice 3 rInt) [v196] s40.1, Ch.own (rSlice 4 rBool) [v221] z77, Ch.mp Try.prog 3 3 iLit iOk iLit 0 v2 s40.2.1, Ch.blk g1 [.int .i64 0, .slice none 0 0, .slice none 0 0] 27, F])
      clear A526 S526 a526 w526
      refine rn A527 S527 (sv (opT_field_addr (g := g2) (b := 0) tf27_2 rfl rfl) rfl rfl (sop (opT_store_blk (g := g2) (off := 2) (l := [.int .i64 0, v221, v152]) (d := [v223]) (E := 27) (u := v223) ti23 rfl rfl rfl (Hd.cells (St.hd S527 0 rfl).1) rfl (allC (Hd.one (St.hd S527 0 rfl).1) allN) (Nat.le_of_ble_eq_true rfl)) (perm_front (i := 1) rfl) rfl rfl ?_))
      rintro _ a528 w528 - A528 (S528 : St I w0 w528 [Ch.blk g2 [.int .i64 0, v221, v223] 27, Ch.own (rSlice 34 (rSlice 3 rInt)) [v223] z78, Ch.own (rSlice 3 rInt) [v196] s40.1, Ch.own (rSlice 4 rBool) [v221] z77, Ch.mp Try.prog 3 3 iLit iOk iLit 0 v2 s40.2.1, Ch.blk g1 [.int .i64 0, .slice none 0 0, .slice none 0 0] 27, F])
      clear A527 S527 a527 w527
      replace A528 := A528.pk (L' := [(1, .int .i64 p1), (2, va0), (3, va1), (8, .pointer (some ⟨g1, 0, none⟩)), (10, v196), (11, v2), (12, .pointer (some ⟨g2, 0, none⟩)), (13, .int .i64 s29.2.2.1)]) rfl
      refine wpList_nil (nrmB (nrm (wp_region_lit (rn A528 S528 (sv (opT_move (v := .int .i64 s29.2.2.1) rfl rfl) rfl rfl (sv (opT_add (m := s29.2.2.1) (n := 1) rfl rfl rfl) rfl rfl (sv (opT_assign (v := .int .i64 (IntKind.i64.wrap (s29.2.2.1 + 1))) rfl rfl) rfl rfl (enR (L' := [(1, .int .i64 p1), (2, va0), (3, va1), (8, .pointer (some ⟨g1, 0, none⟩)), (10, v196), (11, v2), (12, .pointer (some ⟨g2, 0, none⟩)), (13, .int .i64 (IntKind.i64.wrap (s29.2.2.1 + 1)))]) rfl ?_))))))))
      clear A528 S528 a528 w528;intro a529 w529 A529 S529
      exact nrm (⟨_, (Option.some.inj hm).symm, ⟨v196, v221, v223, A529.pick' ⟨rfl, rfl, rfl, rfl, rfl, rfl, rfl, rfl, trivial⟩, St.sel S529 7 [2, 4, 3, 1, 5, 0, 6] rfl rfl⟩⟩)
    replace hm := ifTe hb69 hm
    refine cnd_true (b := decide ((s40.1.length : Int) > p1)) A523 rfl rfl hb69 ?_
    refine wp_seq (wp_region_lit (rn A523 S523 (sv (opT_build (zl := [.int .i64 0, .slice none 0 0, .slice none 0 0]) (r := [.int .i64 0, .slice none 0 0, .slice none 0 0]) [] tb27 tz27 rfl rfl trivial rfl) rfl rfl (sop (opT_store_blk (g := g1) (off := 0) (l := [.int .i64 0, .slice none 0 0, .slice none 0 0]) (d := [.int .i64 0, .slice none 0 0, .slice none 0 0]) (E := 27) (u := .agg #[.int .i64 0, .slice none 0 0, .slice none 0 0]) ti27 rfl rfl rfl rfl rfl (allC rfl (allC rfl (allC rfl allN))) (Nat.le_of_ble_eq_true rfl)) (perm_front (i := 3) rfl) rfl rfl ?_))))
    rintro _ a530 w530 - A530 (S530 : St I w0 w530 [Ch.blk g1 [.int .i64 0, .slice none 0 0, .slice none 0 0] 27, Ch.own (rSlice 3 rInt) [v196] s40.1, Ch.mp Try.prog 3 3 iLit iOk iLit 0 v2 s40.2.1, Ch.own (rSlice 3 rInt) [v197] s40.2.2.1, Ch.blk g2 [.int .i64 0, v151, v152] 27, Ch.own (rSlice 4 rBool) [v151] s29.2.2.2.1, Ch.own (rSlice 34 (rSlice 3 rInt)) [v152] s29.2.2.2.2, F])
    clear A523 S523 a523 w523
    refine rn A530 S530 (sv (opT_assign (v := .bool false) rfl rfl) rfl rfl (enR (L' := [(8, .pointer (some ⟨g1, 0, none⟩)), (9, .bool false)]) rfl ?_))
    clear A530 S530 a530 w530;intro a531 w531 A531 S531
    refine nrm (wp_ret (thenR (blkR (thenR (thenR (blkR (thenR (thenR ?_))))))))
    replace hm := loopRet hm hf3 hc21
    obtain rfl := Option.some.inj hm
    exact ret_2 A531 rfl (res_cell (g := g1) A531 rfl S531 0 rfl ti27 rfl) (res_tmp A531 rfl) ⟨_, rfl, ⟨_, _, rfl⟩, _, Hp.le.rfl, St.sel ((St.nil (St.nil S531))) 10 [1, 0, 9] rfl rfl⟩
  rintro a532 w532 ⟨s30, ho31, v148, v149, A532, S532⟩
  replace hm := loopOut ho31 hc21
  clear ho31 hc21 hl3
  refine nrm (wp_seq (wp_region_lit (rn A532 S532 (sop (opT_load_blk (g := g2) (off := 0) (E := 27) (l := [.int .i64 0, v148, v149]) (d := [.int .i64 0, v148, v149]) (u := .agg #[.int .i64 0, v148, v149]) ti27 rfl rfl rfl rfl rfl rfl) (perm_front (i := 3) rfl) rfl rfl ?_))))
  rintro u a533 w533 hf A533 (S533 : St I w0 w533 [Ch.blk g2 [.int .i64 0, v148, v149] 27, Ch.own (rSlice 4 rBool) [v148] s30.2.2.2.1, Ch.own (rSlice 34 (rSlice 3 rInt)) [v149] s30.2.2.2.2, Ch.blk g1 [.int .i64 0, .slice none 0 0, .slice none 0 0] 27, F])
  obtain rfl := Eq.symm hf
  clear A532 S532 a532 w532
  refine rn A533 S533 (sop (opT_store_blk (g := g1) (off := 0) (l := [.int .i64 0, .slice none 0 0, .slice none 0 0]) (d := [.int .i64 0, v148, v149]) (E := 27) (u := .agg #[.int .i64 0, v148, v149]) ti27 rfl rfl rfl rfl rfl (allC rfl (allC (Hd.one (St.hd S533 1 rfl).1) (allC (Hd.one (St.hd S533 2 rfl).1) allN))) (Nat.le_of_ble_eq_true rfl)) (perm_front (i := 3) rfl) rfl rfl ?_)
  rintro _ a534 w534 - A534 (S534 : St I w0 w534 [Ch.blk g1 [.int .i64 0, v148, v149] 27, Ch.blk g2 [.int .i64 0, v148, v149] 27, Ch.own (rSlice 4 rBool) [v148] s30.2.2.2.1, Ch.own (rSlice 34 (rSlice 3 rInt)) [v149] s30.2.2.2.2, F])
  clear A533 S533 a533 w533
  refine rn A534 S534 (sv (opT_assign (v := .bool true) rfl rfl) rfl rfl (enR (L' := [(8, .pointer (some ⟨g1, 0, none⟩)), (9, .bool true)]) rfl ?_))
  clear A534 S534 a534 w534;intro a535 w535 A535 S535
  refine nrm (wp_ret ?_)
  obtain rfl := Option.some.inj hm
  exact ret_2 A535 rfl (res_cell (g := g1) A535 rfl S535 0 rfl ti27 rfl) (res_tmp A535 rfl) ⟨_, rfl, ⟨_, _, rfl⟩, _, Hp.le.rfl, St.sel (S535) 5 [2, 3, 4] rfl rfl⟩
theorem c_w_eqBoolS (p0a : List Bool) (p1b : List Bool) (r : Bool) (hm : m_w_eqBoolS p0a p1b = some r) {I : Hp} {w0 : World} (va0 : Value) (va1 : Value) (ra0 : (rSlice 4 rBool).rd I [va0] p0a) (ra1 : (rSlice 4 rBool).rd I [va1] p1b) : Con Try.prog 53 #[va0, va1] I w0 [] (fun v => v = .bool r) (fun v => []) := by
  refine con_of_wp (n := 26) [(0, va0), (1, va1)] Try.func53 rfl rfl (Nat.le_of_ble_eq_true rfl) (args_all ⟨rfl, rfl, trivial⟩) (fun F w a ha hs => ?_) (fun v => trivial)
  unfold m_w_eqBoolS at hm
  refine wp_seq (wp_region_lit (rn ha hs (sv (opT_assign (v := .bool false) rfl rfl) rfl rfl (enR (L' := [(0, va0), (1, va1)]) rfl ?_))))
  clear ha hs a w;intro a1 w1 A1 S1
  refine nrm (wp_seq (wp_seq (wp_region_lit (rn A1 S1 (sv (opT_move (v := va0) rfl rfl) rfl rfl (sv (opT_len_hd (v := va0) (n := p0a.length) (Hd.of_rd ra0) Try.underlying22 rfl rfl) rfl rfl (sv (opT_move (v := va1) rfl rfl) rfl rfl (sv (opT_len_hd (v := va1) (n := p1b.length) (Hd.of_rd ra1) Try.underlying22 rfl rfl) rfl rfl (sv (opT_cmp (k := .i64) (m := (p0a.length : Int)) (n := (p1b.length : Int)) (c := (p0a.length : Int) != (p1b.length : Int)) rfl rfl rfl rfl rfl) rfl rfl (enR (L' := [(0, va0), (1, va1), (10, .bool ((p0a.length : Int) != (p1b.length : Int)))]) rfl ?_))))))))))
  clear A1 S1 a1 w1;intro a2 w2 A2 S2
  refine nrm ?_
  rcases two ((p0a.length : Int) != (p1b.length : Int)) with hb1 | hb1
  · replace hm := ifFe hb1 hm
    refine cnd_false (b := (p0a.length : Int) != (p1b.length : Int)) A2 rfl rfl hb1 ?_
    refine wp_skip (nrm (wp_seq (wp_seq (wp_region_lit (rn A2 S2 (sv (opT_assign (v := .int .i64 0) rfl rfl) rfl rfl (enR (L' := [(0, va0), (1, va1), (5, .int .i64 0)]) rfl ?_)))))))
    clear A2 S2 a2 w2;intro a3 w3 A3 S3
    refine nrm ?_
    obtain ⟨o1, hl1, hc1⟩ := bindL_some hm
    refine wp_cut (fun a w => ∃ s4 : Int, o1 = .brk s4 ∧ Agr 26 a [] ∧ St I w0 w [F]) ?_ ?_
    · refine wp_block (wp_loopM (R := Bool) (S := Int) (fun s3 a w => Agr 26 a [(0, va0), (1, va1), (5, .int .i64 s3)] ∧ St I w0 w [F]) hl1 ?_ ?_)
      · exact ⟨A3.pick' ⟨rfl, rfl, rfl, trivial⟩, St.sel S3 1 [0] rfl rfl⟩
      rintro s3 o2 hm hf1 a10 w10 ⟨A10, S10⟩
      unfold m_w_eqBoolS_l0 at hm
      refine wp_seq (wp_seq (wp_region_lit (rn A10 S10 (sv (opT_move (v := .int .i64 s3) rfl rfl) rfl rfl (sv (opT_move (v := va0) rfl rfl) rfl rfl (sv (opT_len_hd (v := va0) (n := p0a.length) (Hd.of_rd ra0) Try.underlying22 rfl rfl) rfl rfl (sv (opT_cmp (k := .i64) (m := s3) (n := (p0a.length : Int)) (c := decide (s3 < (p0a.length : Int))) rfl rfl rfl rfl rfl) rfl rfl (enR (L' := [(0, va0), (1, va1), (5, .int .i64 s3), (14, .bool (decide (s3 < (p0a.length : Int))))]) rfl ?_))))))))
      clear A10 S10 a10 w10;intro a11 w11 A11 S11
      refine nrm ?_
      rcases two (decide (s3 < (p0a.length : Int))) with hb6 | hb6
      · replace hm := ifFe hb6 hm
        refine cnd_false (b := decide (s3 < (p0a.length : Int))) A11 rfl rfl hb6 ?_
        exact wp_exit (thenX (thenX (ex_in (nrm (⟨_, loopBrk hm hf1, ⟨A11.pick' trivial, St.sel S11 1 [0] rfl rfl⟩⟩)))))
      replace hm := ifTe hb6 hm
      refine cnd_true (b := decide (s3 < (p0a.length : Int))) A11 rfl rfl hb6 ?_
      refine wp_skip (nrm (wp_seq (wp_block (wp_seq ?_))))
      obtain ⟨x5, e5, hm⟩ := bind_some hm
      obtain ⟨x6, e6, hm⟩ := bind_some hm
      refine wp_draw (L := [(0, va0), (1, va1), (5, .int .i64 s3), (14, .bool (decide (s3 < (p0a.length : Int))))]) (C := [F]) { ops := [⟨[], [], [], [0], fun | [xo0] => xo0 = va0 | _ => True, [(0, none)]⟩, ⟨[], [], [], [1], fun | [xo1] => xo1 = .int .i64 s3 | _ => True, [(5, none)]⟩, ⟨[], [], [], [2], fun | [xo2] => xo2 = pt va0 (s3.toNat * 1) | _ => True, [(17, some 0), (18, some 1)]⟩, ⟨[], [], [], [3], fun | [xo3] => xo3 = .bool x5 | _ => True, [(19, some 2)]⟩, ⟨[], [], [], [4], fun | [xo4] => xo4 = va1 | _ => True, [(1, none)]⟩, ⟨[], [], [], [5], fun | [xo5] => xo5 = .int .i64 s3 | _ => True, [(5, none)]⟩, ⟨[], [], [], [6], fun | [xo6] => xo6 = pt va1 (s3.toNat * 1) | _ => True, [(21, some 4), (22, some 5)]⟩, ⟨[], [], [], [7], fun | [xo7] => xo7 = .bool x6 | _ => True, [(23, some 6)]⟩, ⟨[], [], [], [8], fun | [xo8] => xo8 = .bool (x5 != x6) | _ => True, [(20, some 3), (24, some 7)]⟩], res := [], base := [], pre := [[], [], [0, 1], [0, 1, 2], [], [], [4, 5], [4, 5, 6], [0, 1, 2, 3, 4, 5, 6, 7]], fin := [(0, none), (1, none), (5, none), (25, some 8)], left := [] } (by kernel_rfl) A11 S11 (perm_sel [0] (m := 1) rfl rfl) (by kernel_rfl) (by kernel_rfl) ?_ ?_
      · exact ⟨Plan.goal_run fun vs hf => ⟨wants_none rfl, OpT.conv (OpT.evs (ev' := evL [(0, va0)]) (opT_move (v := va0) rfl rfl) rfl [.tmp 0] rfl ⟨rfl, trivial⟩) rfl (fun _ h => Eq.trans h rfl) (fun _ => rfl)⟩, Plan.goal_run fun vs hf => ⟨wants_none rfl, OpT.conv (OpT.evs (ev' := evL [(5, .int .i64 s3)]) (opT_move (v := .int .i64 s3) rfl rfl) rfl [.tmp 5] rfl ⟨rfl, trivial⟩) rfl (fun _ h => Eq.trans h rfl) (fun _ => rfl)⟩, Plan.goal_run fun vs hf => ⟨wants_none rfl, OpT.conv (OpT.evs (ev' := evL [(17, va0), (18, .int .i64 s3)]) (opT_index_hd (xs := p0a) (i := s3) (n := 1) (Hd.of_rd ra0) Try.underlying22 ti4 rfl rfl rfl (getI_in e5)) rfl [.tmp 17, .tmp 18] rfl ⟨(hf 0 (mb rfl)), (hf 1 (mb rfl)), trivial⟩) rfl (fun _ h => Eq.trans h rfl) (fun _ => rfl)⟩, Plan.goal_run fun vs hf => ⟨wants_none rfl, OpT.conv (OpT.evs (ev' := evL [(19, pt va0 (s3.toNat * 1))]) (opT_load_el (S := rBool) (xs := p0a) (a := x5) (i := s3) (k := 1) (off := 0) (f := fun (x : Bool) => x) ra0 e5 Fld.self ti4 rfl rfl rfl rfl rfl) rfl [.tmp 19] rfl ⟨(hf 2 (mb rfl)), trivial⟩) rfl (fun _ h => lds_one h) (fun _ => rfl)⟩, Plan.goal_run fun vs hf => ⟨wants_none rfl, OpT.conv (OpT.evs (ev' := evL [(1, va1)]) (opT_move (v := va1) rfl rfl) rfl [.tmp 1] rfl ⟨rfl, trivial⟩) rfl (fun _ h => Eq.trans h rfl) (fun _ => rfl)⟩, Plan.goal_run fun vs hf => ⟨wants_none rfl, OpT.conv (OpT.evs (ev' := evL [(5, .int .i64 s3)]) (opT_move (v := .int .i64 s3) rfl rfl) rfl [.tmp 5] rfl ⟨rfl, trivial⟩) rfl (fun _ h => Eq.trans h rfl) (fun _ => rfl)⟩, Plan.goal_run fun vs hf => ⟨wants_none rfl, OpT.conv (OpT.evs (ev' := evL [(21, va1), (22, .int .i64 s3)]) (opT_index_hd (xs := p1b) (i := s3) (n := 1) (Hd.of_rd ra1) Try.underlying22 ti4 rfl rfl rfl (getI_in e6)) rfl [.tmp 21, .tmp 22] rfl ⟨(hf 4 (mb rfl)), (hf 5 (mb rfl)), trivial⟩) rfl (fun _ h => Eq.trans h rfl) (fun _ => rfl)⟩, Plan.goal_run fun vs hf => ⟨wants_none rfl, OpT.conv (OpT.evs (ev' := evL [(23, pt va1 (s3.toNat * 1))]) (opT_load_el (S := rBool) (xs := p1b) (a := x6) (i := s3) (k := 1) (off := 0) (f := fun (x : Bool) => x) ra1 e6 Fld.self ti4 rfl rfl rfl rfl rfl) rfl [.tmp 23] rfl ⟨(hf 6 (mb rfl)), trivial⟩) rfl (fun _ h => lds_one h) (fun _ => rfl)⟩, Plan.goal_run fun vs hf => ⟨wants_none rfl, OpT.conv (OpT.evs (ev' := evL [(20, .bool x5), (24, .bool x6)]) (opT_neb (b := x5) (c := x6) Try.underlying4 rfl rfl rfl) rfl [.tmp 20, .tmp 24] rfl ⟨(hf 3 (mb rfl)), (hf 7 (mb rfl)), trivial⟩) rfl (fun _ h => Eq.trans h rfl) (fun _ => rfl)⟩, trivial⟩
      intro vs a12 w12 hf A12 S12
      clear A11 S11
      replace A12 := A12.pick' (L' := [(0, va0), (1, va1), (5, .int .i64 s3), (25, .bool (x5 != x6))]) ⟨rfl, rfl, rfl, (congrArg some (show _ = _ from (hf 8 (Nat.le_of_ble_eq_true rfl)))), trivial⟩
      replace S12 : St I w0 w12 [F] := S12
      clear hf vs
      refine nrm ?_
      rcases two (x5 != x6) with hb7 | hb7
      · replace hm := ifFe hb7 hm
        refine cnd_false (b := x5 != x6) A12 rfl rfl hb7 ?_
        refine wp_skip (nrmB (nrm (wp_region_lit (rn A12 S12 (sv (opT_move (v := .int .i64 s3) rfl rfl) rfl rfl (sv (opT_add (m := s3) (n := 1) rfl rfl rfl) rfl rfl (sv (opT_assign (v := .int .i64 (IntKind.i64.wrap (s3 + 1))) rfl rfl) rfl rfl (enR (L' := [(0, va0), (1, va1), (5, .int .i64 (IntKind.i64.wrap (s3 + 1)))]) rfl ?_))))))))
        clear A12 S12 a12 w12;intro a13 w13 A13 S13
        exact nrm (⟨_, (Option.some.inj hm).symm, ⟨A13.pick' ⟨rfl, rfl, rfl, trivial⟩, St.sel S13 1 [0] rfl rfl⟩⟩)
      replace hm := ifTe hb7 hm
      refine cnd_true (b := x5 != x6) A12 rfl rfl hb7 ?_
      refine wp_seq (wp_region_lit (rn A12 S12 (sv (opT_assign (v := .bool false) rfl rfl) rfl rfl (enR (L' := [(4, .bool false)]) rfl ?_))))
      clear A12 S12 a12 w12;intro a14 w14 A14 S14
      refine nrm (wp_ret (blkR (thenR (thenR (blkR (thenR (thenR ?_)))))))
      replace hm := loopRet hm hf1 hc1
      obtain rfl := Option.some.inj hm
      exact ret_1 A14 rfl (res_tmp A14 rfl) ⟨_, rfl, rfl, _, Hp.le.rfl, St.sel (S14) 1 [0] rfl rfl⟩
    rintro a15 w15 ⟨s4, ho1, A15, S15⟩
    replace hm := loopOut ho1 hc1
    clear ho1 hc1 hl1
    refine nrm (wp_seq (wp_region_lit (rn A15 S15 (sv (opT_assign (v := .bool true) rfl rfl) rfl rfl (enR (L' := [(4, .bool true)]) rfl ?_)))))
    clear A15 S15 a15 w15;intro a16 w16 A16 S16
    refine nrm (wp_ret ?_)
    obtain rfl := Option.some.inj hm
    exact ret_1 A16 rfl (res_tmp A16 rfl) ⟨_, rfl, rfl, _, Hp.le.rfl, St.sel (S16) 1 [0] rfl rfl⟩
  replace hm := ifTe hb1 hm
  refine cnd_true (b := (p0a.length : Int) != (p1b.length : Int)) A2 rfl rfl hb1 ?_
  refine wp_seq (wp_region_lit (rn A2 S2 (sv (opT_assign (v := .bool false) rfl rfl) rfl rfl (enR (L' := [(4, .bool false)]) rfl ?_))))
  clear A2 S2 a2 w2;intro a17 w17 A17 S17
  refine nrm (wp_ret (thenR ?_))
  obtain rfl := Option.some.inj hm
  exact ret_1 A17 rfl (res_tmp A17 rfl) ⟨_, rfl, rfl, _, Hp.le.rfl, St.sel (S17) 1 [0] rfl rfl⟩
theorem c_w_toBoolS (p0a : List Bool) (r : List Bool) (hm : m_w_toBoolS p0a = some r) {I : Hp} {w0 : World} (va0 : Value) (ra0 : (rSlice 4 rBool).rd I [va0] p0a) : Con Try.prog 49 #[va0] I w0 [] (fun v => True) (fun v => [Ch.own (rSlice 4 rBool) [v] r]) := by
  refine con_of_wp (n := 22) [(0, va0)] Try.func49 rfl rfl (Nat.le_of_ble_eq_true rfl) (args_all ⟨rfl, trivial⟩) (fun F w a ha hs => ?_) (fun v => ⟨dp_own (dp_slice dp_bool), trivial⟩)
  unfold m_w_toBoolS at hm
  refine wp_seq (wp_region_lit (rn ha hs (sv (opT_assign (v := .slice none 0 0) rfl rfl) rfl rfl (enR (L' := [(0, va0)]) rfl ?_))))
  clear ha hs a w;intro a1 w1 A1 S1
  refine nrm (wp_seq (wp_region_lit (rn A1 S1 (sv (opT_move (v := va0) rfl rfl) rfl rfl (sv (opT_len_hd (v := va0) (n := p0a.length) (Hd.of_rd ra0) Try.underlying22 rfl rfl) rfl rfl ?_)))))
  obtain ⟨x1, hk1, hm⟩ := bind_some hm
  refine sop (opT_mk (E := 4) (R := rBool) (zv := .bool false) (z := (false : Bool)) zro_flat Try.underlying22 tz4 rfl rfl (by decide) (by decide) rfl rfl hk1) (List.Perm.refl _) rfl rfl ?_
  rintro v1 a2 w2 - A2 (S2 : St I w0 w2 [Ch.own (rSlice 4 rBool) [v1] x1, F])
  clear A1 S1 a1 w1
  refine rn A2 S2 (sv (opT_assign (v := v1) rfl rfl) rfl rfl (enR (L' := [(0, va0), (3, v1)]) rfl ?_))
  clear A2 S2 a2 w2;intro a3 w3 A3 S3
  refine nrm (wp_seq (wp_seq (wp_region_lit (rn A3 S3 (sv (opT_assign (v := .int .i64 0) rfl rfl) rfl rfl (enR (L' := [(0, va0), (3, v1), (4, .int .i64 0)]) rfl ?_))))))
  clear A3 S3 a3 w3;intro a4 w4 A4 S4
  refine nrm ?_
  obtain ⟨o1, hl1, hc1⟩ := bindL_some hm
  refine wp_cut (fun a w => ∃ s4 : (List Bool) × Int, o1 = .brk s4 ∧ Agr 22 a [(3, v1)] ∧ St I w0 w [Ch.own (rSlice 4 rBool) [v1] s4.1, F]) ?_ ?_
  · refine wp_block (wp_loopM (R := List Bool) (S := (List Bool) × Int) (fun s3 a w => Agr 22 a [(0, va0), (3, v1), (4, .int .i64 s3.2)] ∧ St I w0 w [Ch.own (rSlice 4 rBool) [v1] s3.1, F]) hl1 ?_ ?_)
    · exact ⟨A4.pick' ⟨rfl, rfl, rfl, trivial⟩, St.sel S4 2 [0, 1] rfl rfl⟩
    rintro s3 o2 hm hf1 a13 w13 ⟨A13, S13⟩
    unfold m_w_toBoolS_l0 at hm
    refine wp_seq (wp_seq (wp_region_lit (rn A13 S13 (sv (opT_move (v := .int .i64 s3.2) rfl rfl) rfl rfl (sv (opT_move (v := va0) rfl rfl) rfl rfl (sv (opT_len_hd (v := va0) (n := p0a.length) (Hd.of_rd ra0) Try.underlying22 rfl rfl) rfl rfl (sv (opT_cmp (k := .i64) (m := s3.2) (n := (p0a.length : Int)) (c := decide (s3.2 < (p0a.length : Int))) rfl rfl rfl rfl rfl) rfl rfl (enR (L' := [(0, va0), (3, v1), (4, .int .i64 s3.2), (11, .bool (decide (s3.2 < (p0a.length : Int))))]) rfl ?_))))))))
    clear A13 S13 a13 w13;intro a14 w14 A14 S14
    refine nrm ?_
    rcases two (decide (s3.2 < (p0a.length : Int))) with hb3 | hb3
    · replace hm := ifFe hb3 hm
      refine cnd_false (b := decide (s3.2 < (p0a.length : Int))) A14 rfl rfl hb3 ?_
      exact wp_exit (thenX (thenX (ex_in (nrm (⟨_, loopBrk hm hf1, ⟨A14.pick' ⟨rfl, trivial⟩, St.sel S14 2 [0, 1] rfl rfl⟩⟩)))))
    replace hm := ifTe hb3 hm
    refine cnd_true (b := decide (s3.2 < (p0a.length : Int))) A14 rfl rfl hb3 ?_
    refine wp_skip (nrm (wp_seq (wp_block (wp_region_lit (rn A14 S14 (sv (opT_move (v := v1) rfl rfl) rfl rfl (sv (opT_move (v := .int .i64 s3.2) rfl rfl) rfl rfl (sv (opT_move (v := va0) rfl rfl) rfl rfl (sv (opT_move (v := .int .i64 s3.2) rfl rfl) rfl rfl ?_)))))))))
    obtain ⟨x6, e5, hm⟩ := bind_some hm
    refine sv (opT_index_hd (xs := p0a) (i := s3.2) (n := 1) (Hd.of_rd ra0) Try.underlying22 ti4 rfl rfl rfl (getI_in e5)) rfl rfl (so0 (opT_load_el (S := rBool) (xs := p0a) (a := x6) (i := s3.2) (k := 1) (off := 0) (f := fun (x : Bool) => x) ra0 e5 Fld.self ti4 rfl rfl rfl rfl rfl) rfl rfl ?_)
    rintro u a15 w15 hf A15 S15
    obtain rfl := lds_one hf
    clear A14 S14 a14 w14
    obtain ⟨x7, e6, hm⟩ := bind_some hm
    refine rn A15 S15 (sv (opT_index_hd (xs := s3.1) (i := s3.2) (n := 1) (St.hd S15 0 rfl).1 Try.underlying22 ti4 rfl rfl rfl (getI_in e6)) rfl rfl (sop (opT_store_el (E := 4) (R := rBool) (S := rBool) (xs := s3.1) (a := x7) (b := x6) (i := s3.2) (k := 1) (off := 0) (f := fun x y => y) (v := v1) (d := [.bool x6]) (u := .bool x6) sh_bool cpy_bool e6 Upd.self ti4 rfl rfl rfl rfl (allC rfl allN) rfl rfl (by decide) rfl) (perm_front (i := 0) rfl) rfl rfl ?_))
    rintro _ a16 w16 - A16 (S16 : St I w0 w16 [Ch.own (rSlice 4 rBool) [v1] (s3.1.set s3.2.toNat x6), F])
    clear A15 S15 a15 w15
    replace A16 := A16.pk (L' := [(0, va0), (3, v1), (4, .int .i64 s3.2)]) rfl
    refine wpList_nil (nrmB (nrm (wp_region_lit (rn A16 S16 (sv (opT_move (v := .int .i64 s3.2) rfl rfl) rfl rfl (sv (opT_add (m := s3.2) (n := 1) rfl rfl rfl) rfl rfl (sv (opT_assign (v := .int .i64 (IntKind.i64.wrap (s3.2 + 1))) rfl rfl) rfl rfl (enR (L' := [(0, va0), (3, v1), (4, .int .i64 (IntKind.i64.wrap (s3.2 + 1)))]) rfl ?_))))))))
    clear A16 S16 a16 w16;intro a17 w17 A17 S17
    exact nrm (⟨_, (Option.some.inj hm).symm, ⟨A17.pick' ⟨rfl, rfl, rfl, trivial⟩, St.sel S17 2 [0, 1] rfl rfl⟩⟩)
  rintro a18 w18 ⟨s4, ho1, A18, S18⟩
  replace hm := loopOut ho1 hc1
  clear ho1 hc1 hl1
  refine nrm (wp_seq (wp_region_lit (rn A18 S18 (sv (opT_move (v := v1) rfl rfl) rfl rfl (sv (opT_assign (v := v1) rfl rfl) rfl rfl (enR (L' := [(2, v1)]) rfl ?_))))))
  clear A18 S18 a18 w18;intro a19 w19 A19 S19
  refine nrm (wp_ret ?_)
  obtain rfl := Option.some.inj hm
  exact ret_1 A19 rfl (res_tmp A19 rfl) ⟨_, rfl, trivial, _, Hp.le.rfl, St.sel (S19) 2 [0, 1] rfl rfl⟩
theorem c_w_markBoolS (p0a : List Bool) (p1k : Int) (r : Int × (List Bool)) (hm : m_w_markBoolS p0a p1k = some r) {I : Hp} {w0 : World} (va0 : Value) : Con Try.prog 55 #[va0, .int .i64 p1k] I w0 [Ch.own (rSlice 4 rBool) [va0] p0a] (fun v => v = .int .i64 r.1) (fun v => [Ch.own (rSlice 4 rBool) [va0] r.2]) := by
  refine con_of_wp (n := 21) [(0, va0), (1, .int .i64 p1k)] Try.func55 rfl rfl (Nat.le_of_ble_eq_true rfl) (args_all ⟨rfl, rfl, trivial⟩) (fun F w a ha hs => ?_) (fun v => ⟨dp_own (dp_slice dp_bool), trivial⟩)
  unfold m_w_markBoolS at hm
  refine wp_seq (wp_region_lit (rn ha hs (sv (opT_assign (v := .int .i64 0) rfl rfl) rfl rfl (enR (L' := [(0, va0), (1, .int .i64 p1k)]) rfl ?_))))
  clear ha hs a w;intro a1 w1 A1 S1
  refine nrm (wp_seq (wp_seq (wp_region_lit (rn A1 S1 (sv (opT_assign (v := .int .i64 0) rfl rfl) rfl rfl (enR (L' := [(0, va0), (1, .int .i64 p1k), (5, .int .i64 0)]) rfl ?_))))))
  clear A1 S1 a1 w1;intro a2 w2 A2 S2
  refine nrm ?_
  obtain ⟨o1, hl1, hc1⟩ := bindL_some hm
  refine wp_cut (fun a w => ∃ s4 : (List Bool) × Int × Int, o1 = .brk s4 ∧ Agr 21 a [(1, .int .i64 s4.2.1)] ∧ St I w0 w [Ch.own (rSlice 4 rBool) [va0] s4.1, F]) ?_ ?_
  · refine wp_block (wp_loopM (R := Int × (List Bool)) (S := (List Bool) × Int × Int) (fun s3 a w => Agr 21 a [(0, va0), (1, .int .i64 s3.2.1), (5, .int .i64 s3.2.2)] ∧ St I w0 w [Ch.own (rSlice 4 rBool) [va0] s3.1, F]) hl1 ?_ ?_)
    · exact ⟨A2.pick' ⟨rfl, rfl, rfl, trivial⟩, St.sel S2 2 [0, 1] rfl rfl⟩
    rintro s3 o2 hm hf1 a11 w11 ⟨A11, S11⟩
    unfold m_w_markBoolS_l0 at hm
    refine wp_seq (wp_seq (wp_region_lit (rn A11 S11 (sv (opT_move (v := .int .i64 s3.2.2) rfl rfl) rfl rfl (sv (opT_move (v := va0) rfl rfl) rfl rfl (sv (opT_len_hd (v := va0) (n := s3.1.length) (St.hd S11 0 rfl).1 Try.underlying22 rfl rfl) rfl rfl (sv (opT_cmp (k := .i64) (m := s3.2.2) (n := (s3.1.length : Int)) (c := decide (s3.2.2 < (s3.1.length : Int))) rfl rfl rfl rfl rfl) rfl rfl (enR (L' := [(0, va0), (1, .int .i64 s3.2.1), (5, .int .i64 s3.2.2), (9, .bool (decide (s3.2.2 < (s3.1.length : Int))))]) rfl ?_))))))))
    clear A11 S11 a11 w11;intro a12 w12 A12 S12
    refine nrm ?_
    rcases two (decide (s3.2.2 < (s3.1.length : Int))) with hb3 | hb3
    · replace hm := ifFe hb3 hm
      refine cnd_false (b := decide (s3.2.2 < (s3.1.length : Int))) A12 rfl rfl hb3 ?_
      exact wp_exit (thenX (thenX (ex_in (nrm (⟨_, loopBrk hm hf1, ⟨A12.pick' ⟨rfl, trivial⟩, St.sel S12 2 [0, 1] rfl rfl⟩⟩)))))
    replace hm := ifTe hb3 hm
    refine cnd_true (b := decide (s3.2.2 < (s3.1.length : Int))) A12 rfl rfl hb3 ?_
    refine wp_skip (nrm (wp_seq (wp_block (wp_seq (wp_region_lit (rn A12 S12 (sv (opT_move (v := va0) rfl rfl) rfl rfl (sv (opT_move (v := .int .i64 s3.2.2) rfl rfl) rfl rfl (sv (opT_move (v := .int .i64 s3.2.1) rfl rfl) rfl rfl (sv (opT_rem (m := s3.2.1) (n := 3) rfl rfl rfl (by decide)) rfl rfl (sv (opT_cmp (k := .i64) (m := Int.tmod s3.2.1 3) (n := 0) (c := (Int.tmod s3.2.1 3) == 0) rfl rfl rfl rfl rfl) rfl rfl ?_)))))))))))
    obtain ⟨x3, e3, hm⟩ := bind_some hm
    refine sv (opT_index_hd (xs := s3.1) (i := s3.2.2) (n := 1) (St.hd S12 0 rfl).1 Try.underlying22 ti4 rfl rfl rfl (getI_in e3)) rfl rfl (sop (opT_store_el (E := 4) (R := rBool) (S := rBool) (xs := s3.1) (a := x3) (b := (Int.tmod s3.2.1 3) == 0) (i := s3.2.2) (k := 1) (off := 0) (f := fun x y => y) (v := va0) (d := [.bool ((Int.tmod s3.2.1 3) == 0)]) (u := .bool ((Int.tmod s3.2.1 3) == 0)) sh_bool cpy_bool e3 Upd.self ti4 rfl rfl rfl rfl (allC rfl allN) rfl rfl (by decide) rfl) (perm_front (i := 0) rfl) rfl rfl ?_)
    rintro _ a13 w13 - A13 (S13 : St I w0 w13 [Ch.own (rSlice 4 rBool) [va0] (s3.1.set s3.2.2.toNat ((Int.tmod s3.2.1 3) == 0)), F])
    clear A12 S12 a12 w12
    replace A13 := A13.pk (L' := [(0, va0), (1, .int .i64 s3.2.1), (5, .int .i64 s3.2.2)]) rfl
    refine wpList_nil (nrm (wp_region_lit (rn A13 S13 (sv (opT_move (v := .int .i64 s3.2.1) rfl rfl) rfl rfl (sv (opT_add (m := s3.2.1) (n := 1) rfl rfl rfl) rfl rfl (sv (opT_assign (v := .int .i64 (IntKind.i64.wrap (s3.2.1 + 1))) rfl rfl) rfl rfl (enR (L' := [(0, va0), (1, .int .i64 (IntKind.i64.wrap (s3.2.1 + 1))), (5, .int .i64 s3.2.2)]) rfl ?_)))))))
    clear A13 S13 a13 w13;intro a14 w14 A14 S14
    refine nrmB (nrm (wp_region_lit (rn A14 S14 (sv (opT_move (v := .int .i64 s3.2.2) rfl rfl) rfl rfl (sv (opT_add (m := s3.2.2) (n := 1) rfl rfl rfl) rfl rfl (sv (opT_assign (v := .int .i64 (IntKind.i64.wrap (s3.2.2 + 1))) rfl rfl) rfl rfl (enR (L' := [(0, va0), (1, .int .i64 (IntKind.i64.wrap (s3.2.1 + 1))), (5, .int .i64 (IntKind.i64.wrap (s3.2.2 + 1)))]) rfl ?_)))))))
    clear A14 S14 a14 w14;intro a15 w15 A15 S15
    exact nrm (⟨_, (Option.some.inj hm).symm, ⟨A15.pick' ⟨rfl, rfl, rfl, trivial⟩, St.sel S15 2 [0, 1] rfl rfl⟩⟩)
  rintro a16 w16 ⟨s4, ho1, A16, S16⟩
  replace hm := loopOut ho1 hc1
  clear ho1 hc1 hl1
  refine nrm (wp_seq (wp_region_lit (rn A16 S16 (sv (opT_move (v := .int .i64 s4.2.1) rfl rfl) rfl rfl (sv (opT_assign (v := .int .i64 s4.2.1) rfl rfl) rfl rfl (enR (L' := [(4, .int .i64 s4.2.1)]) rfl ?_))))))
  clear A16 S16 a16 w16;intro a17 w17 A17 S17
  refine nrm (wp_ret ?_)
  obtain rfl := Option.some.inj hm
  exact ret_1 A17 rfl (res_tmp A17 rfl) ⟨_, rfl, rfl, _, Hp.le.rfl, St.sel (S17) 2 [0, 1] rfl rfl⟩
theorem c_s_l12Next (p0a : Int × (List Bool) × (List (List Int))) (p1s : Int) (p2k : Int) (r : Int) (hm : m_s_l12Next p0a p1s p2k = some r) {I : Hp} {w0 : World} (va0 : Value) (va1 : Value) (ra0 : (rSlice 4 rBool).rd I [va0] p0a.2.1) (ra1 : (rSlice 34 (rSlice 3 rInt)).rd I [va1] p0a.2.2) : Con Try.prog 162 #[.agg #[.int .i64 p0a.1, va0, va1], .int .i64 p1s, .int .i64 p2k] I w0 [] (fun v => v = .int .i64 r) (fun v => []) := by
  refine con_of_wp (n := 17) [(0, .agg #[.int .i64 p0a.1, va0, va1]), (1, .int .i64 p1s), (2, .int .i64 p2k)] Try.func162 rfl rfl (Nat.le_of_ble_eq_true rfl) (args_all ⟨rfl, rfl, rfl, trivial⟩) (fun F w a ha hs => ?_) (fun v => trivial)
  unfold m_s_l12Next at hm
  refine wp_seq (wp_region_lit (rn ha hs (sop (opT_box (u := .agg #[.int .i64 p0a.1, va0, va1]) (l := [.int .i64 p0a.1, va0, va1]) rfl rfl rfl) (List.Perm.refl _) rfl rfl ?_)))
  rintro _ a1 w1 ⟨g1, rfl⟩ A1 (S1 : St I w0 w1 [Ch.blk g1 [.int .i64 p0a.1, va0, va1] 27, F])
  clear ha hs a w
  refine rn A1 S1 (sv (opT_assign (v := .int .i64 0) rfl rfl) rfl rfl (enR (L' := [(1, .int .i64 p1s), (2, .int .i64 p2k), (3, .pointer (some ⟨g1, 0, none⟩))]) rfl ?_))
  clear A1 S1 a1 w1;intro a2 w2 A2 S2
  refine nrm (wp_seq (wp_seq (wp_region_lit (rn A2 S2 (sv (opT_move (v := .int .i64 p1s) rfl rfl) rfl rfl (sv (opT_cmp (k := .i64) (m := p1s) (n := 0) (c := decide (p1s < 0)) rfl rfl rfl rfl rfl) rfl rfl (enR (L' := [(1, .int .i64 p1s), (2, .int .i64 p2k), (3, .pointer (some ⟨g1, 0, none⟩)), (8, .bool (decide (p1s < 0)))]) rfl ?_)))))))
  clear A2 S2 a2 w2;intro a3 w3 A3 S3
  refine nrm ?_
  rcases two (decide (p1s < 0)) with hb1 | hb1
  · replace hm := ifFe hb1 hm
    refine cnd_false (b := decide (p1s < 0)) A3 rfl rfl hb1 ?_
    refine wp_skip (nrm (wp_seq (wp_region_lit (rn A3 S3 (sv (opT_field_addr (g := g1) (b := 0) tf27_2 rfl rfl) rfl rfl (sop (opT_load_blk (g := g1) (off := 2) (E := 27) (l := [.int .i64 p0a.1, va0, va1]) (d := [va1]) (u := va1) ti23 rfl rfl rfl rfl rfl rfl) (perm_front (i := 0) rfl) rfl rfl ?_))))))
    rintro u a4 w4 hf A4 (S4 : St I w0 w4 [Ch.blk g1 [.int .i64 p0a.1, va0, va1] 27, F])
    obtain rfl := Eq.symm hf
    clear A3 S3 a3 w3
    refine rn A4 S4 (sv (opT_move (v := .int .i64 p1s) rfl rfl) rfl rfl ?_)
    obtain ⟨x1, e1, hm⟩ := bind_some hm
    refine sv (opT_index_hd (xs := p0a.2.2) (i := p1s) (n := 1) (Hd.of_rd ra1) Try.underlying23 ti34 rfl rfl rfl (getI_in e1)) rfl rfl (so0 (opT_load_el (S := rSlice 3 rInt) (xs := p0a.2.2) (a := x1) (i := p1s) (k := 1) (off := 0) (f := fun (x : List Int) => x) ra1 e1 Fld.self ti34 rfl rfl rfl rfl rfl) rfl rfl ?_)
    rintro v1 a5 w5 hf A5 S5
    have r1 := lds_sl hf
    clear hf
    clear A4 S4 a4 w4
    refine rn A5 S5 (sv (opT_move (v := .int .i64 p2k) rfl rfl) rfl rfl ?_)
    obtain ⟨x2, e2, hm⟩ := bind_some hm
    refine sv (opT_index_hd (xs := x1) (i := p2k) (n := 1) (Hd.of_rd r1) Try.underlying34 ti3 rfl rfl rfl (getI_in e2)) rfl rfl (so0 (opT_load_el (S := rInt) (xs := x1) (a := x2) (i := p2k) (k := 1) (off := 0) (f := fun (x : Int) => x) r1 e2 Fld.self ti3 rfl rfl rfl rfl rfl) rfl rfl ?_)
    rintro u a6 w6 hf A6 S6
    obtain rfl := lds_one hf
    clear A5 S5 a5 w5
    refine rn A6 S6 (sv (opT_assign (v := .int .i64 x2) rfl rfl) rfl rfl (enR (L' := [(6, .int .i64 x2)]) rfl ?_))
    clear A6 S6 a6 w6;intro a7 w7 A7 S7
    refine nrm (wp_ret ?_)
    obtain rfl := Option.some.inj hm
    exact ret_1 A7 rfl (res_tmp A7 rfl) ⟨_, rfl, rfl, _, Hp.le.rfl, St.sel (S7) 2 [1] rfl rfl⟩
  replace hm := ifTe hb1 hm
  refine cnd_true (b := decide (p1s < 0)) A3 rfl rfl hb1 ?_
  refine wp_seq (wp_region_lit (rn A3 S3 (sv (opT_assign (v := .int .i64 (-1)) rfl rfl) rfl rfl (enR (L' := [(6, .int .i64 (-1))]) rfl ?_))))
  clear A3 S3 a3 w3;intro a8 w8 A8 S8
  refine nrm (wp_ret (thenR ?_))
  obtain rfl := Option.some.inj hm
  exact ret_1 A8 rfl (res_tmp A8 rfl) ⟨_, rfl, rfl, _, Hp.le.rfl, St.sel (S8) 2 [1] rfl rfl⟩
theorem c_i_combine_2 (p0s : Int × Int) (p1letter : Int) (q0 : (Int × Int) → Int → Option ((Int × Int))) (r : (Int × Int) × Bool) (hm : m_i_combine_2 p0s p1letter q0 = some r) {I : Hp} {w0 : World} (g0_0 : Nat) (va1 : Value) (rb0 : I g0_0 = some (.cells #[va1] 133 (0, 0))) (ra1 : fn133 w0 I va1 q0) : Con Try.prog 126 #[.agg #[.int .i64 p0s.1, .int .i64 p0s.2], .int .i64 p1letter, .pointer (some ⟨g0_0, 0, none⟩)] I w0 [] (fun v => v = .tuple #[.agg #[.int .i64 r.1.1, .int .i64 r.1.2], .bool r.2]) (fun v => []) := by
  refine con_of_wp (n := 11) [(0, .agg #[.int .i64 p0s.1, .int .i64 p0s.2]), (1, .int .i64 p1letter), (2, .pointer (some ⟨g0_0, 0, none⟩))] Try.func126 rfl rfl (Nat.le_of_ble_eq_true rfl) (args_all ⟨rfl, rfl, rfl, trivial⟩) (fun F w a ha hs => ?_) (fun v => trivial)
  unfold m_i_combine_2 at hm
  refine wp_seq (wp_region_lit (rn ha hs (sop (opT_box (u := .agg #[.int .i64 p0s.1, .int .i64 p0s.2]) (l := [.int .i64 p0s.1, .int .i64 p0s.2]) rfl rfl rfl) (List.Perm.refl _) rfl rfl ?_)))
  rintro _ a1 w1 ⟨g1, rfl⟩ A1 (S1 : St I w0 w1 [Ch.blk g1 [.int .i64 p0s.1, .int .i64 p0s.2] 137, F])
  clear ha hs a w
  refine rn A1 S1 (sop (opT_alloc (l := [.int .i64 0, .int .i64 0]) tz137 rfl rfl) (List.Perm.refl _) rfl rfl ?_)
  rintro _ a2 w2 ⟨g2, rfl⟩ A2 (S2 : St I w0 w2 [Ch.blk g2 [.int .i64 0, .int .i64 0] 137, Ch.blk g1 [.int .i64 p0s.1, .int .i64 p0s.2] 137, F])
  clear A1 S1 a1 w1
  refine rn A2 S2 (sv (opT_assign (v := .bool false) rfl rfl) rfl rfl (enR (L' := [(1, .int .i64 p1letter), (2, .pointer (some ⟨g0_0, 0, none⟩)), (3, .pointer (some ⟨g1, 0, none⟩)), (5, .pointer (some ⟨g2, 0, none⟩))]) rfl ?_))
  clear A2 S2 a2 w2;intro a3 w3 A3 S3
  refine nrm (wp_seq (wp_region_lit (rn A3 S3 (sv (opT_load_fro (g := g0_0) (off := 0) (l := [va1]) (d := [va1]) (u := va1) rb0 ti133 rfl rfl rfl rfl rfl rfl) rfl rfl (sop (opT_load_blk (g := g1) (off := 0) (E := 137) (l := [.int .i64 p0s.1, .int .i64 p0s.2]) (d := [.int .i64 p0s.1, .int .i64 p0s.2]) (u := .agg #[.int .i64 p0s.1, .int .i64 p0s.2]) ti137 rfl rfl rfl rfl rfl rfl) (perm_front (i := 1) rfl) rfl rfl ?_)))))
  rintro u a4 w4 hf A4 (S4 : St I w0 w4 [Ch.blk g1 [.int .i64 p0s.1, .int .i64 p0s.2] 137, Ch.blk g2 [.int .i64 0, .int .i64 0] 137, F])
  obtain rfl := Eq.symm hf
  clear A3 S3 a3 w3
  refine rn A4 S4 (sv (opT_move (v := .int .i64 p1letter) rfl rfl) rfl rfl ?_)
  obtain ⟨r1, e1, hm⟩ := bind_some hm
  refine so0 (opT_call_clo (v := va1) (args := [.agg #[.int .i64 p0s.1, .int .i64 p0s.2], .int .i64 p1letter]) (ra1.2 _ Hp.le.rfl (p0s.1, p0s.2) p1letter _ e1  ) rfl rfl rfl) rfl rfl ?_
  rintro u a5 w5 hf A5 S5
  obtain rfl := Eq.symm hf
  clear A4 S4 a4 w4
  refine rn A5 S5 (sop (opT_store_blk (g := g2) (off := 0) (l := [.int .i64 0, .int .i64 0]) (d := [.int .i64 r1.1, .int .i64 r1.2]) (E := 137) (u := .agg #[.int .i64 r1.1, .int .i64 r1.2]) ti137 rfl rfl rfl rfl rfl (allC rfl (allC rfl allN)) (Nat.le_of_ble_eq_true rfl)) (perm_front (i := 1) rfl) rfl rfl ?_)
  rintro _ a6 w6 - A6 (S6 : St I w0 w6 [Ch.blk g2 [.int .i64 r1.1, .int .i64 r1.2] 137, Ch.blk g1 [.int .i64 p0s.1, .int .i64 p0s.2] 137, F])
  clear A5 S5 a5 w5
  refine rn A6 S6 (sv (opT_assign (v := .bool true) rfl rfl) rfl rfl (enR (L' := [(5, .pointer (some ⟨g2, 0, none⟩)), (6, .bool true)]) rfl ?_))
  clear A6 S6 a6 w6;intro a7 w7 A7 S7
  refine nrm (wp_ret ?_)
  obtain rfl := Option.some.inj hm
  exact ret_2 A7 rfl (res_cell (g := g2) A7 rfl S7 0 rfl ti137 rfl) (res_tmp A7 rfl) ⟨_, rfl, rfl, _, Hp.le.rfl, St.sel (S7) 3 [2] rfl rfl⟩
theorem c_s_l1In (p0x : Int) (p1low : Int) (p2high : Int) (r : Bool) (hm : m_s_l1In p0x p1low p2high = some r) {I : Hp} {w0 : World} : Con Try.prog 146 #[.int .i64 p0x, .int .i64 p1low, .int .i64 p2high] I w0 [] (fun v => v = .bool r) (fun v => []) := by
  refine con_of_wp (n := 15) [(0, .int .i64 p0x), (1, .int .i64 p1low), (2, .int .i64 p2high)] Try.func146 rfl rfl (Nat.le_of_ble_eq_true rfl) (args_all ⟨rfl, rfl, rfl, trivial⟩) (fun F w a ha hs => ?_) (fun v => trivial)
  unfold m_s_l1In at hm
  refine wp_seq (wp_region_lit (rn ha hs (sv (opT_assign (v := .bool false) rfl rfl) rfl rfl (enR (L' := [(0, .int .i64 p0x), (1, .int .i64 p1low), (2, .int .i64 p2high)]) rfl ?_))))
  clear ha hs a w;intro a1 w1 A1 S1
  refine nrm (wp_seq (wp_region_lit (rn A1 S1 (sv (opT_move (v := .int .i64 p0x) rfl rfl) rfl rfl (sv (opT_move (v := .int .i64 p1low) rfl rfl) rfl rfl (sv (opT_cmp (k := .i64) (m := p0x) (n := p1low) (c := decide (p0x ≥ p1low)) rfl rfl rfl rfl rfl) rfl rfl (sv (opT_move (v := .bool (decide (p0x ≥ p1low))) rfl rfl) rfl rfl ?_)))))))
  rcases two (decide (p0x ≥ p1low)) with hb1 | hb1
  · replace hm := ifFe hb1 hm
    refine ssk (g := 3) (d := 10) (want := true) (b := decide (p0x ≥ p1low)) rfl rfl rfl hb1 rfl (ssk (g := 3) (d := 10) (want := true) (b := decide (p0x ≥ p1low)) rfl rfl rfl hb1 rfl (ssk (g := 3) (d := 10) (want := true) (b := decide (p0x ≥ p1low)) rfl rfl rfl hb1 rfl (sv (opT_pick (b := decide (p0x ≥ p1low)) (v := .bool false) rfl rfl (ifF hb1)) rfl rfl (sv (opT_assign (v := .bool false) rfl rfl) rfl rfl (enR (L' := [(6, .bool false)]) rfl ?_)))))
    clear A1 S1 a1 w1;intro a2 w2 A2 S2
    refine nrm (wp_ret ?_)
    obtain rfl := Option.some.inj hm
    exact ret_1 A2 rfl (res_tmp A2 rfl) ⟨_, rfl, rfl, _, Hp.le.rfl, St.sel (S2) 1 [0] rfl rfl⟩
  replace hm := ifTe hb1 hm
  refine svg (g := 3) (d := 10) (want := true) (b := decide (p0x ≥ p1low)) rfl rfl rfl hb1 (opT_move (v := .int .i64 p0x) rfl rfl) rfl (svg (g := 3) (d := 10) (want := true) (b := decide (p0x ≥ p1low)) rfl rfl rfl hb1 (opT_move (v := .int .i64 p2high) rfl rfl) rfl (svg (g := 3) (d := 10) (want := true) (b := decide (p0x ≥ p1low)) rfl rfl rfl hb1 (opT_cmp (k := .i64) (m := p0x) (n := p2high) (c := decide (p0x ≤ p2high)) rfl rfl rfl rfl rfl) rfl (sv (opT_pick (b := decide (p0x ≥ p1low)) (v := .bool (decide (p0x ≤ p2high))) rfl rfl (ifT hb1)) rfl rfl (sv (opT_assign (v := .bool (decide (p0x ≤ p2high))) rfl rfl) rfl rfl (enR (L' := [(6, .bool (decide (p0x ≤ p2high)))]) rfl ?_)))))
  clear A1 S1 a1 w1;intro a3 w3 A3 S3
  refine nrm (wp_ret ?_)
  obtain rfl := Option.some.inj hm
  exact ret_1 A3 rfl (res_tmp A3 rfl) ⟨_, rfl, rfl, _, Hp.le.rfl, St.sel (S3) 1 [0] rfl rfl⟩
theorem c_i_ComplementAutomaton_1 (p0x : Bool) (p1_ : Bool) (r : Bool) (hm : m_i_ComplementAutomaton_1 p0x p1_ = some r) {I : Hp} {w0 : World} : Con Try.prog 77 #[.bool p0x, .bool p1_] I w0 [] (fun v => v = .bool r) (fun v => []) := by
  refine con_of_wp (n := 7) [(0, .bool p0x), (1, .bool p1_)] Try.func77 rfl rfl (Nat.le_of_ble_eq_true rfl) (args_all ⟨rfl, rfl, trivial⟩) (fun F w a ha hs => ?_) (fun v => trivial)
  unfold m_i_ComplementAutomaton_1 at hm
  refine wp_seq (wp_region_lit (rn ha hs (sv (opT_assign (v := .bool false) rfl rfl) rfl rfl (enR (L' := [(0, .bool p0x)]) rfl ?_))))
  clear ha hs a w;intro a1 w1 A1 S1
  refine nrm (wp_seq (wp_region_lit (rn A1 S1 (sv (opT_move (v := .bool p0x) rfl rfl) rfl rfl (sv (opT_not (b := p0x) rfl rfl) rfl rfl (sv (opT_assign (v := .bool (!p0x)) rfl rfl) rfl rfl (enR (L' := [(4, .bool (!p0x))]) rfl ?_)))))))
  clear A1 S1 a1 w1;intro a2 w2 A2 S2
  refine nrm (wp_ret ?_)
  obtain rfl := Option.some.inj hm
  exact ret_1 A2 rfl (res_tmp A2 rfl) ⟨_, rfl, rfl, _, Hp.le.rfl, St.sel (S2) 1 [0] rfl rfl⟩
end Go.Proofs.Ytcihbmdppgpmjaa.D
