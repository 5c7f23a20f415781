/- Printed by dec.py: models of functions and the walks that show them. -/
import Derived.Test.YtcihbmdppgpmjaaCw0_0
import Derived.Test.YtcihbmdppgpmjaaCw0_1
import Derived.Test.YtcihbmdppgpmjaaCw1_1
import Derived.Test.YtcihbmdppgpmjaaCw1_3
import Derived.Test.YtcihbmdppgpmjaaCw3_3
import Derived.Test.YtcihbmdppgpmjaaCw5_0
set_option linter.unusedVariables false
set_option linter.unusedSimpArgs false
set_option linter.unnecessarySimpa false
set_option maxRecDepth 100000
set_option maxHeartbeats 8000000
namespace Go.Proofs.Ytcihbmdppgpmjaa.D
open Go.RowKit
theorem c_i_combine (p0a : Int × (List Bool) × (List (List Int))) (p1b : Int × (List Bool) × (List (List Int))) (p2test : Bool → Bool → Option Bool) (r : (Int × (List Bool) × (List (List Int))) × Bool) (hm : m_i_combine p0a p1b p2test = some r) {I : Hp} {w0 : World} (va0 : Value) (va1 : Value) (va2 : Value) (va3 : Value) (va4 : Value) (ra0 : (rSlice 4 rBool).rd I [va0] p0a.2.1) (ra1 : (rSlice 34 (rSlice 3 rInt)).rd I [va1] p0a.2.2) (ra2 : (rSlice 4 rBool).rd I [va2] p1b.2.1) (ra3 : (rSlice 34 (rSlice 3 rInt)).rd I [va3] p1b.2.2) (ra4 : fn100 w0 I va4 p2test) : Con Try.prog 72 #[.agg #[.int .i64 p0a.1, va0, va1], .agg #[.int .i64 p1b.1, va2, va3], va4] I w0 [] (fun v => ∃ h0 h1 : Value, v = .tuple #[.agg #[.int .i64 r.1.1, h0, h1], .bool r.2]) (fun v => [Ch.own (rSlice 4 rBool) [vg v [0, 1]] r.1.2.1, Ch.own (rSlice 34 (rSlice 3 rInt)) [vg v [0, 2]] r.1.2.2]) := by
  refine con_of_wp (n := 38) [(0, .agg #[.int .i64 p0a.1, va0, va1]), (1, .agg #[.int .i64 p1b.1, va2, va3]), (2, va4)] Try.func72 rfl rfl (Nat.le_of_ble_eq_true rfl) (args_all ⟨rfl, rfl, rfl, trivial⟩) (fun F w a ha hs => ?_) (fun v => ⟨dp_own (dp_slice dp_bool), dp_own (dp_slice (dp_slice dp_int)), trivial⟩)
  unfold m_i_combine at hm
  refine wp_seq (wp_region_lit (rn ha hs (sop (opT_box (u := .agg #[.int .i64 p0a.1, va0, va1]) (l := [.int .i64 p0a.1, va0, va1]) rfl rfl rfl) (List.Perm.refl _) rfl rfl ?_)))
  rintro _ a1 w1 ⟨g1, rfl⟩ A1 (S1 : St I w0 w1 [Ch.blk g1 [.int .i64 p0a.1, va0, va1] 27, F])
  clear ha hs a w
  refine rn A1 S1 (sop (opT_box (u := .agg #[.int .i64 p1b.1, va2, va3]) (l := [.int .i64 p1b.1, va2, va3]) rfl rfl rfl) (List.Perm.refl _) rfl rfl ?_)
  rintro _ a2 w2 ⟨g2, rfl⟩ A2 (S2 : St I w0 w2 [Ch.blk g2 [.int .i64 p1b.1, va2, va3] 27, Ch.blk g1 [.int .i64 p0a.1, va0, va1] 27, F])
  clear A1 S1 a1 w1
  refine rn A2 S2 (sop (opT_box (u := va4) (l := [va4]) rfl (IsFn.cells ra4.1) rfl) (List.Perm.refl _) rfl rfl ?_)
  rintro _ a3 w3 ⟨g3, rfl⟩ A3 (S3 : St I w0 w3 [Ch.blk g3 [va4] 100, Ch.blk g2 [.int .i64 p1b.1, va2, va3] 27, Ch.blk g1 [.int .i64 p0a.1, va0, va1] 27, F])
  clear A2 S2 a2 w2
  refine rn A3 S3 (sop (opT_alloc (l := [.int .i64 0, .slice none 0 0, .slice none 0 0]) tz27 rfl rfl) (List.Perm.refl _) rfl rfl ?_)
  rintro _ a4 w4 ⟨g4, rfl⟩ A4 (S4 : St I w0 w4 [Ch.blk g4 [.int .i64 0, .slice none 0 0, .slice none 0 0] 27, Ch.blk g3 [va4] 100, Ch.blk g2 [.int .i64 p1b.1, va2, va3] 27, Ch.blk g1 [.int .i64 p0a.1, va0, va1] 27, F])
  clear A3 S3 a3 w3
  refine rn A4 S4 (sv (opT_assign (v := .bool false) rfl rfl) rfl rfl (enR (L' := [(3, .pointer (some ⟨g1, 0, none⟩)), (4, .pointer (some ⟨g2, 0, none⟩)), (5, .pointer (some ⟨g3, 0, none⟩)), (6, .pointer (some ⟨g4, 0, none⟩))]) rfl ?_))
  clear A4 S4 a4 w4;intro a5 w5 A5 S5
  refine nrm (wp_seq (wp_seq (wp_region_lit (rn A5 S5 (sop (opT_load_blk (g := g1) (off := 0) (E := 27) (l := [.int .i64 p0a.1, va0, va1]) (d := [.int .i64 p0a.1, va0, va1]) (u := .agg #[.int .i64 p0a.1, va0, va1]) ti27 rfl rfl rfl rfl rfl rfl) (perm_front (i := 3) rfl) rfl rfl ?_)))))
  rintro u a6 w6 hf A6 (S6 : St I w0 w6 [Ch.blk g1 [.int .i64 p0a.1, va0, va1] 27, Ch.blk g4 [.int .i64 0, .slice none 0 0, .slice none 0 0] 27, Ch.blk g3 [va4] 100, Ch.blk g2 [.int .i64 p1b.1, va2, va3] 27, F])
  obtain rfl := Eq.symm hf
  clear A5 S5 a5 w5
  obtain ⟨r1, e1, hm⟩ := bind_some hm
  refine rn A6 S6 (so0 (opT_call (args := #[.agg #[.int .i64 p0a.1, va0, va1]]) (first := #[]) (captured := #[]) en51 rfl rfl rfl (c_i_IsValidAutomaton (p0a.1, p0a.2.1, p0a.2.2) _ e1 va0 va1 ra0 ra1)) rfl rfl ?_)
  rintro u a7 w7 hf A7 S7
  obtain rfl := Eq.symm hf
  clear A6 S6 a6 w6
  refine rn A7 S7 (sv (opT_not (b := r1) rfl rfl) rfl rfl (sv (opT_move (v := .bool (!r1)) rfl rfl) rfl rfl ?_))
  rcases two (r1) with hb1 | hb1
  · replace hm := ifFe hb1 hm
    refine ssk (g := 3) (d := 14) (want := false) (b := !r1) rfl rfl rfl (notT hb1) rfl (ssk (g := 3) (d := 14) (want := false) (b := !r1) rfl rfl rfl (notT hb1) rfl (ssk (g := 3) (d := 14) (want := false) (b := !r1) rfl rfl rfl (notT hb1) rfl (sv (opT_pick (b := !r1) (v := .bool true) rfl rfl (ifT (notT hb1))) rfl rfl (enR (L' := [(3, .pointer (some ⟨g1, 0, none⟩)), (4, .pointer (some ⟨g2, 0, none⟩)), (5, .pointer (some ⟨g3, 0, none⟩)), (6, .pointer (some ⟨g4, 0, none⟩)), (18, .bool true)]) rfl ?_))))
    clear A7 S7 a7 w7;intro a8 w8 A8 S8
    refine nrm (cnd_true (b := true) A8 rfl rfl rfl ?_)
    refine wp_seq (wp_region_lit (rn A8 S8 (sv (opT_build (zl := [.int .i64 0, .slice none 0 0, .slice none 0 0]) (r := [.int .i64 0, .slice none 0 0, .slice none 0 0]) [] tb27 tz27 rfl rfl trivial rfl) rfl rfl (sop (opT_store_blk (g := g4) (off := 0) (l := [.int .i64 0, .slice none 0 0, .slice none 0 0]) (d := [.int .i64 0, .slice none 0 0, .slice none 0 0]) (E := 27) (u := .agg #[.int .i64 0, .slice none 0 0, .slice none 0 0]) ti27 rfl rfl rfl rfl rfl (allC rfl (allC rfl (allC rfl allN))) (Nat.le_of_ble_eq_true rfl)) (perm_front (i := 1) rfl) rfl rfl ?_))))
    rintro _ a9 w9 - A9 (S9 : St I w0 w9 [Ch.blk g4 [.int .i64 0, .slice none 0 0, .slice none 0 0] 27, Ch.blk g1 [.int .i64 p0a.1, va0, va1] 27, Ch.blk g3 [va4] 100, Ch.blk g2 [.int .i64 p1b.1, va2, va3] 27, F])
    clear A8 S8 a8 w8
    refine rn A9 S9 (sv (opT_assign (v := .bool false) rfl rfl) rfl rfl (enR (L' := [(6, .pointer (some ⟨g4, 0, none⟩)), (7, .bool false)]) rfl ?_))
    clear A9 S9 a9 w9;intro a10 w10 A10 S10
    refine nrm (wp_ret (thenR ?_))
    obtain rfl := Option.some.inj hm
    exact ret_2 A10 rfl (res_cell (g := g4) A10 rfl S10 0 rfl ti27 rfl) (res_tmp A10 rfl) ⟨_, rfl, ⟨_, _, rfl⟩, _, Hp.le.rfl, St.sel ((St.nil (St.nil S10))) 7 [1, 0, 6] rfl rfl⟩
  replace hm := ifTe hb1 hm
  refine sopg (g := 3) (d := 14) (want := false) (b := !r1) rfl rfl rfl (notF hb1) (opT_load_blk (g := g2) (off := 0) (E := 27) (l := [.int .i64 p1b.1, va2, va3]) (d := [.int .i64 p1b.1, va2, va3]) (u := .agg #[.int .i64 p1b.1, va2, va3]) ti27 rfl rfl rfl rfl rfl rfl) (perm_front (i := 3) rfl) rfl ?_
  rintro u a11 w11 hf A11 (S11 : St I w0 w11 [Ch.blk g2 [.int .i64 p1b.1, va2, va3] 27, Ch.blk g1 [.int .i64 p0a.1, va0, va1] 27, Ch.blk g4 [.int .i64 0, .slice none 0 0, .slice none 0 0] 27, Ch.blk g3 [va4] 100, F])
  obtain rfl := Eq.symm hf
  clear A7 S7 a7 w7
  obtain ⟨r2, e2, hm⟩ := bind_some hm
  refine rn A11 S11 (so0g (g := 3) (d := 14) (want := false) (b := !r1) rfl rfl rfl (notF hb1) (opT_call (args := #[.agg #[.int .i64 p1b.1, va2, va3]]) (first := #[]) (captured := #[]) en51 rfl rfl rfl (c_i_IsValidAutomaton (p1b.1, p1b.2.1, p1b.2.2) _ e2 va2 va3 ra2 ra3)) rfl ?_)
  rintro u a12 w12 hf A12 S12
  obtain rfl := Eq.symm hf
  clear A11 S11 a11 w11
  refine rn A12 S12 (svg (g := 3) (d := 14) (want := false) (b := !r1) rfl rfl rfl (notF hb1) (opT_not (b := r2) rfl rfl) rfl (sv (opT_pick (b := !r1) (v := .bool (!r2)) rfl rfl (ifF (notF hb1))) rfl rfl (enR (L' := [(3, .pointer (some ⟨g1, 0, none⟩)), (4, .pointer (some ⟨g2, 0, none⟩)), (5, .pointer (some ⟨g3, 0, none⟩)), (6, .pointer (some ⟨g4, 0, none⟩)), (18, .bool (!r2))]) rfl ?_)))
  clear A12 S12 a12 w12;intro a13 w13 A13 S13
  refine nrm ?_
  rcases two (r2) with hb2 | hb2
  · replace hm := ifFe hb2 hm
    refine cnd_true (b := !r2) A13 rfl rfl (notT hb2) ?_
    refine wp_seq (wp_region_lit (rn A13 S13 (sv (opT_build (zl := [.int .i64 0, .slice none 0 0, .slice none 0 0]) (r := [.int .i64 0, .slice none 0 0, .slice none 0 0]) [] tb27 tz27 rfl rfl trivial rfl) rfl rfl (sop (opT_store_blk (g := g4) (off := 0) (l := [.int .i64 0, .slice none 0 0, .slice none 0 0]) (d := [.int .i64 0, .slice none 0 0, .slice none 0 0]) (E := 27) (u := .agg #[.int .i64 0, .slice none 0 0, .slice none 0 0]) ti27 rfl rfl rfl rfl rfl (allC rfl (allC rfl (allC rfl allN))) (Nat.le_of_ble_eq_true rfl)) (perm_front (i := 2) rfl) rfl rfl ?_))))
    rintro _ a14 w14 - A14 (S14 : St I w0 w14 [Ch.blk g4 [.int .i64 0, .slice none 0 0, .slice none 0 0] 27, Ch.blk g2 [.int .i64 p1b.1, va2, va3] 27, Ch.blk g1 [.int .i64 p0a.1, va0, va1] 27, Ch.blk g3 [va4] 100, F])
    clear A13 S13 a13 w13
    refine rn A14 S14 (sv (opT_assign (v := .bool false) rfl rfl) rfl rfl (enR (L' := [(6, .pointer (some ⟨g4, 0, none⟩)), (7, .bool false)]) rfl ?_))
    clear A14 S14 a14 w14;intro a15 w15 A15 S15
    refine nrm (wp_ret (thenR ?_))
    obtain rfl := Option.some.inj hm
    exact ret_2 A15 rfl (res_cell (g := g4) A15 rfl S15 0 rfl ti27 rfl) (res_tmp A15 rfl) ⟨_, rfl, ⟨_, _, rfl⟩, _, Hp.le.rfl, St.sel ((St.nil (St.nil S15))) 7 [1, 0, 6] rfl rfl⟩
  replace hm := ifTe hb2 hm
  refine cnd_false (b := !r2) A13 rfl rfl (notF hb2) ?_
  refine wp_skip (nrm (wp_seq (wp_region_lit (rn A13 S13 (sop (opT_load_blk (g := g1) (off := 0) (E := 27) (l := [.int .i64 p0a.1, va0, va1]) (d := [.int .i64 p0a.1, va0, va1]) (u := .agg #[.int .i64 p0a.1, va0, va1]) ti27 rfl rfl rfl rfl rfl rfl) (perm_front (i := 1) rfl) rfl rfl ?_)))))
  rintro u a16 w16 hf A16 (S16 : St I w0 w16 [Ch.blk g1 [.int .i64 p0a.1, va0, va1] 27, Ch.blk g2 [.int .i64 p1b.1, va2, va3] 27, Ch.blk g4 [.int .i64 0, .slice none 0 0, .slice none 0 0] 27, Ch.blk g3 [va4] 100, F])
  obtain rfl := Eq.symm hf
  clear A13 S13 a13 w13
  refine rn A16 S16 (sop (opT_load_blk (g := g2) (off := 0) (E := 27) (l := [.int .i64 p1b.1, va2, va3]) (d := [.int .i64 p1b.1, va2, va3]) (u := .agg #[.int .i64 p1b.1, va2, va3]) ti27 rfl rfl rfl rfl rfl rfl) (perm_front (i := 1) rfl) rfl rfl ?_)
  rintro u a17 w17 hf A17 (S17 : St I w0 w17 [Ch.blk g2 [.int .i64 p1b.1, va2, va3] 27, Ch.blk g1 [.int .i64 p0a.1, va0, va1] 27, Ch.blk g4 [.int .i64 0, .slice none 0 0, .slice none 0 0] 27, Ch.blk g3 [va4] 100, F])
  obtain rfl := Eq.symm hf
  clear A16 S16 a16 w16
  obtain ⟨r3, e3, hm⟩ := bind_some hm
  refine rn A17 S17 (sop (opT_call (args := #[.agg #[.int .i64 p0a.1, va0, va1], .agg #[.int .i64 p1b.1, va2, va3]]) (first := #[]) (captured := #[]) en123 rfl rfl rfl (c_i_together (p0a.1, p0a.2.1, p0a.2.2) (p1b.1, p1b.2.1, p1b.2.2) _ e3 va0 va1 va2 va3 ra0 ra1 ra2 ra3)) (List.Perm.refl _) rfl rfl ?_)
  rintro _ a18 w18 ⟨g5, g6, rfl⟩ A18 (S18 : St I w0 w18 [Ch.blk g5 [.int .i64 p0a.1, va0, va1] 27, Ch.blk g6 [.int .i64 p1b.1, va2, va3] 27, Ch.blk g2 [.int .i64 p1b.1, va2, va3] 27, Ch.blk g1 [.int .i64 p0a.1, va0, va1] 27, Ch.blk g4 [.int .i64 0, .slice none 0 0, .slice none 0 0] 27, Ch.blk g3 [va4] 100, F])
  clear A17 S17 a17 w17
  refine rn A18 S18 (sop (opT_alloc (l := [.nilFunc]) tz133 rfl rfl) (List.Perm.refl _) rfl rfl ?_)
  rintro _ a19 w19 ⟨g7, rfl⟩ A19 (S19 : St I w0 w19 [Ch.blk g7 [.nilFunc] 133, Ch.blk g5 [.int .i64 p0a.1, va0, va1] 27, Ch.blk g6 [.int .i64 p1b.1, va2, va3] 27, Ch.blk g2 [.int .i64 p1b.1, va2, va3] 27, Ch.blk g1 [.int .i64 p0a.1, va0, va1] 27, Ch.blk g4 [.int .i64 0, .slice none 0 0, .slice none 0 0] 27, Ch.blk g3 [va4] 100, F])
  clear A18 S18 a18 w18
  refine rn A19 S19 (sop (opT_store_blk (g := g7) (off := 0) (l := [.nilFunc]) (d := [.func (.func 165) #[] #[.pointer (some ⟨g5, 0, none⟩), .pointer (some ⟨g6, 0, none⟩)]]) (E := 133) (u := .func (.func 165) #[] #[.pointer (some ⟨g5, 0, none⟩), .pointer (some ⟨g6, 0, none⟩)]) ti133 rfl rfl rfl rfl rfl (allC rfl allN) (Nat.le_of_ble_eq_true rfl)) (perm_front (i := 0) rfl) rfl rfl ?_)
  rintro _ a20 w20 - A20 (S20 : St I w0 w20 [Ch.blk g7 [.func (.func 165) #[] #[.pointer (some ⟨g5, 0, none⟩), .pointer (some ⟨g6, 0, none⟩)]] 133, Ch.blk g5 [.int .i64 p0a.1, va0, va1] 27, Ch.blk g6 [.int .i64 p1b.1, va2, va3] 27, Ch.blk g2 [.int .i64 p1b.1, va2, va3] 27, Ch.blk g1 [.int .i64 p0a.1, va0, va1] 27, Ch.blk g4 [.int .i64 0, .slice none 0 0, .slice none 0 0] 27, Ch.blk g3 [va4] 100, F])
  clear A19 S19 a19 w19
  replace A20 := A20.pk (L' := [(3, .pointer (some ⟨g1, 0, none⟩)), (4, .pointer (some ⟨g2, 0, none⟩)), (5, .pointer (some ⟨g3, 0, none⟩)), (6, .pointer (some ⟨g4, 0, none⟩)), (8, .pointer (some ⟨g7, 0, none⟩))]) rfl
  refine wpList_nil (nrm (wp_seq (wp_region_lit (rn A20 S20 (sv (opT_field_addr (g := g1) (b := 0) tf27_0 rfl rfl) rfl rfl (sop (opT_load_blk (g := g1) (off := 0) (E := 27) (l := [.int .i64 p0a.1, va0, va1]) (d := [.int .i64 p0a.1]) (u := .int .i64 p0a.1) ti3 rfl rfl rfl rfl rfl rfl) (perm_front (i := 4) rfl) rfl rfl ?_))))))
  rintro u a21 w21 hf A21 (S21 : St I w0 w21 [Ch.blk g1 [.int .i64 p0a.1, va0, va1] 27, Ch.blk g7 [.func (.func 165) #[] #[.pointer (some ⟨g5, 0, none⟩), .pointer (some ⟨g6, 0, none⟩)]] 133, Ch.blk g5 [.int .i64 p0a.1, va0, va1] 27, Ch.blk g6 [.int .i64 p1b.1, va2, va3] 27, Ch.blk g2 [.int .i64 p1b.1, va2, va3] 27, Ch.blk g4 [.int .i64 0, .slice none 0 0, .slice none 0 0] 27, Ch.blk g3 [va4] 100, F])
  obtain rfl := Eq.symm hf
  clear A20 S20 a20 w20
  refine rn A21 S21 (sv (opT_field_addr (g := g2) (b := 0) tf27_0 rfl rfl) rfl rfl (sop (opT_load_blk (g := g2) (off := 0) (E := 27) (l := [.int .i64 p1b.1, va2, va3]) (d := [.int .i64 p1b.1]) (u := .int .i64 p1b.1) ti3 rfl rfl rfl rfl rfl rfl) (perm_front (i := 4) rfl) rfl rfl ?_))
  rintro u a22 w22 hf A22 (S22 : St I w0 w22 [Ch.blk g2 [.int .i64 p1b.1, va2, va3] 27, Ch.blk g1 [.int .i64 p0a.1, va0, va1] 27, Ch.blk g7 [.func (.func 165) #[] #[.pointer (some ⟨g5, 0, none⟩), .pointer (some ⟨g6, 0, none⟩)]] 133, Ch.blk g5 [.int .i64 p0a.1, va0, va1] 27, Ch.blk g6 [.int .i64 p1b.1, va2, va3] 27, Ch.blk g4 [.int .i64 0, .slice none 0 0, .slice none 0 0] 27, Ch.blk g3 [va4] 100, F])
  obtain rfl := Eq.symm hf
  clear A21 S21 a21 w21
  refine rn A22 S22 (sv (opT_build (zl := [.int .i64 0, .int .i64 0]) (r := [.int .i64 p0a.1, .int .i64 p1b.1]) [(0, [.int .i64 p0a.1]), (1, [.int .i64 p1b.1])] tb137 tz137 rfl rfl ⟨rfl, rfl, rfl, rfl, trivial⟩ rfl) rfl rfl (sv (opT_make_func (v := .func (.func 125) #[] #[.pointer (some ⟨g3, 0, none⟩), .pointer (some ⟨g1, 0, none⟩), .pointer (some ⟨g2, 0, none⟩)]) rfl rfl) rfl rfl (sv (opT_make_func (v := .func (.func 126) #[] #[.pointer (some ⟨g7, 0, none⟩)]) rfl rfl) rfl rfl ?_)))
  obtain ⟨r4, e4, hm⟩ := bind_some hm
  refine sop (OpT.lend (ls := [Ch.blk g3 [va4] 100, Ch.blk g1 [.int .i64 p0a.1, va0, va1] 27, Ch.blk g2 [.int .i64 p1b.1, va2, va3] 27, Ch.blk g7 [.func (.func 165) #[] #[.pointer (some ⟨g5, 0, none⟩), .pointer (some ⟨g6, 0, none⟩)]] 133, Ch.blk g5 [.int .i64 p0a.1, va0, va1] 27, Ch.blk g6 [.int .i64 p1b.1, va2, va3] 27]) (gv := fun v => [Ch.own (rSlice 4 rBool) [vg v [0, 1]] r4.1.2.1, Ch.own (rSlice 34 (rSlice 3 rInt)) [vg v [0, 2]] r4.1.2.2]) (fun _ => ⟨dp_own (dp_slice dp_bool), dp_own (dp_slice (dp_slice dp_int)), trivial⟩) fun J hJ hl hb => opT_call (args := #[.agg #[.int .i64 p0a.1, .int .i64 p1b.1], .int .i64 1000, .func (.func 125) #[] #[.pointer (some ⟨g3, 0, none⟩), .pointer (some ⟨g1, 0, none⟩), .pointer (some ⟨g2, 0, none⟩)], .func (.func 126) #[] #[.pointer (some ⟨g7, 0, none⟩)]]) (first := #[]) (captured := #[]) en124 rfl rfl rfl (c_i_numbered_states (p0a.1, p1b.1) 1000 (fun a0 => m_i_combine_1 a0 p2test (p0a.1, p0a.2.1, p0a.2.2) (p1b.1, p1b.2.1, p1b.2.2)) (fun a0 a1 => m_i_combine_2 a0 a1 (fun a0 a1 => m_i_together_1 a0 a1 (p0a.1, p0a.2.1, p0a.2.2) (p1b.1, p1b.2.1, p1b.2.2))) _ e4 (.func (.func 125) #[] #[.pointer (some ⟨g3, 0, none⟩), .pointer (some ⟨g1, 0, none⟩), .pointer (some ⟨g2, 0, none⟩)]) (.func (.func 126) #[] #[.pointer (some ⟨g7, 0, none⟩)]) ⟨isFn, fun J1 hJ1 b1_0 r hm   => ⟨125, #[], #[.pointer (some ⟨g3, 0, none⟩), .pointer (some ⟨g1, 0, none⟩), .pointer (some ⟨g2, 0, none⟩)], rfl, en125, c_i_combine_1 b1_0 p2test (p0a.1, p0a.2.1, p0a.2.2) (p1b.1, p1b.2.1, p1b.2.2) _ hm g3 va4 g1 va0 va1 g2 va2 va3 (hJ1 _ _ (hb _ _ _ (List.Mem.head _))) (fn100_mono (fn100_mono ra4 hJ) hJ1) (hJ1 _ _ (hb _ _ _ (List.Mem.tail _ (List.Mem.head _)))) (Rep.rd_mono _ (Rep.rd_mono _ ra0 hJ) hJ1) (Rep.rd_mono _ (Rep.rd_mono _ ra1 hJ) hJ1) (hJ1 _ _ (hb _ _ _ (List.Mem.tail _ (List.Mem.tail _ (List.Mem.head _))))) (Rep.rd_mono _ (Rep.rd_mono _ ra2 hJ) hJ1) (Rep.rd_mono _ (Rep.rd_mono _ ra3 hJ) hJ1)⟩⟩ ⟨isFn, fun J2 hJ2 b2_0 b2_1 r hm   => ⟨126, #[], #[.pointer (some ⟨g7, 0, none⟩)], rfl, en126, c_i_combine_2 b2_0 b2_1 (fun a0 a1 => m_i_together_1 a0 a1 (p0a.1, p0a.2.1, p0a.2.2) (p1b.1, p1b.2.1, p1b.2.2)) _ hm g7 (.func (.func 165) #[] #[.pointer (some ⟨g5, 0, none⟩), .pointer (some ⟨g6, 0, none⟩)]) (hJ2 _ _ (hb _ _ _ (List.Mem.tail _ (List.Mem.tail _ (List.Mem.tail _ (List.Mem.head _)))))) ⟨isFn, fun J3 hJ3 b3_0 b3_1 r hm   => ⟨165, #[], #[.pointer (some ⟨g5, 0, none⟩), .pointer (some ⟨g6, 0, none⟩)], rfl, en165, c_i_together_1 b3_0 b3_1 (p0a.1, p0a.2.1, p0a.2.2) (p1b.1, p1b.2.1, p1b.2.2) _ hm g5 va0 va1 g6 va2 va3 (hJ3 _ _ (hJ2 _ _ (hb _ _ _ (List.Mem.tail _ (List.Mem.tail _ (List.Mem.tail _ (List.Mem.tail _ (List.Mem.head _)))))))) (Rep.rd_mono _ (Rep.rd_mono _ (Rep.rd_mono _ ra0 hJ) hJ2) hJ3) (Rep.rd_mono _ (Rep.rd_mono _ (Rep.rd_mono _ ra1 hJ) hJ2) hJ3) (hJ3 _ _ (hJ2 _ _ (hb _ _ _ (List.Mem.tail _ (List.Mem.tail _ (List.Mem.tail _ (List.Mem.tail _ (List.Mem.tail _ (List.Mem.head _))))))))) (Rep.rd_mono _ (Rep.rd_mono _ (Rep.rd_mono _ ra2 hJ) hJ2) hJ3) (Rep.rd_mono _ (Rep.rd_mono _ (Rep.rd_mono _ ra3 hJ) hJ2) hJ3)⟩⟩⟩⟩)) (perm_sel [6, 1, 0, 2, 3, 4, 5, 7] (m := 8) rfl rfl) rfl rfl ?_
  rintro u a23 w23 ⟨v1, v2, rfl⟩ A23 (S23 : St I w0 w23 [Ch.own (rSlice 4 rBool) [v1] r4.1.2.1, Ch.own (rSlice 34 (rSlice 3 rInt)) [v2] r4.1.2.2, Ch.blk g3 [va4] 100, Ch.blk g1 [.int .i64 p0a.1, va0, va1] 27, Ch.blk g2 [.int .i64 p1b.1, va2, va3] 27, Ch.blk g7 [.func (.func 165) #[] #[.pointer (some ⟨g5, 0, none⟩), .pointer (some ⟨g6, 0, none⟩)]] 133, Ch.blk g5 [.int .i64 p0a.1, va0, va1] 27, Ch.blk g6 [.int .i64 p1b.1, va2, va3] 27, Ch.blk g4 [.int .i64 0, .slice none 0 0, .slice none 0 0] 27, F])
  clear A22 S22 a22 w22
  refine rn A23 S23 (sv (opT_move (v := .tuple #[.agg #[.int .i64 r4.1.1, v1, v2], .bool r4.2]) rfl rfl) rfl rfl (sv (opT_extract (vs := #[.agg #[.int .i64 r4.1.1, v1, v2], .bool r4.2]) (v := .agg #[.int .i64 r4.1.1, v1, v2]) rfl rfl rfl) rfl rfl (sv (opT_extract (vs := #[.agg #[.int .i64 r4.1.1, v1, v2], .bool r4.2]) (v := .bool r4.2) rfl rfl rfl) rfl rfl (sop (opT_alloc (l := [.int .i64 0, .slice none 0 0, .slice none 0 0]) tz27 rfl rfl) (List.Perm.refl _) rfl rfl ?_))))
  rintro _ a24 w24 ⟨g8, rfl⟩ A24 (S24 : St I w0 w24 [Ch.blk g8 [.int .i64 0, .slice none 0 0, .slice none 0 0] 27, Ch.own (rSlice 4 rBool) [v1] r4.1.2.1, Ch.own (rSlice 34 (rSlice 3 rInt)) [v2] r4.1.2.2, Ch.blk g3 [va4] 100, Ch.blk g1 [.int .i64 p0a.1, va0, va1] 27, Ch.blk g2 [.int .i64 p1b.1, va2, va3] 27, Ch.blk g7 [.func (.func 165) #[] #[.pointer (some ⟨g5, 0, none⟩), .pointer (some ⟨g6, 0, none⟩)]] 133, Ch.blk g5 [.int .i64 p0a.1, va0, va1] 27, Ch.blk g6 [.int .i64 p1b.1, va2, va3] 27, Ch.blk g4 [.int .i64 0, .slice none 0 0, .slice none 0 0] 27, F])
  clear A23 S23 a23 w23
  refine rn A24 S24 (sop (opT_store_blk (g := g8) (off := 0) (l := [.int .i64 0, .slice none 0 0, .slice none 0 0]) (d := [.int .i64 r4.1.1, v1, v2]) (E := 27) (u := .agg #[.int .i64 r4.1.1, v1, v2]) ti27 rfl rfl rfl rfl rfl (allC rfl (allC (Hd.one (St.hd S24 1 rfl).1) (allC (Hd.one (St.hd S24 2 rfl).1) allN))) (Nat.le_of_ble_eq_true rfl)) (perm_front (i := 0) rfl) rfl rfl ?_)
  rintro _ a25 w25 - A25 (S25 : St I w0 w25 [Ch.blk g8 [.int .i64 r4.1.1, v1, v2] 27, Ch.own (rSlice 4 rBool) [v1] r4.1.2.1, Ch.own (rSlice 34 (rSlice 3 rInt)) [v2] r4.1.2.2, Ch.blk g3 [va4] 100, Ch.blk g1 [.int .i64 p0a.1, va0, va1] 27, Ch.blk g2 [.int .i64 p1b.1, va2, va3] 27, Ch.blk g7 [.func (.func 165) #[] #[.pointer (some ⟨g5, 0, none⟩), .pointer (some ⟨g6, 0, none⟩)]] 133, Ch.blk g5 [.int .i64 p0a.1, va0, va1] 27, Ch.blk g6 [.int .i64 p1b.1, va2, va3] 27, Ch.blk g4 [.int .i64 0, .slice none 0 0, .slice none 0 0] 27, F])
  clear A24 S24 a24 w24
  refine rn A25 S25 (sv (opT_assign (v := .bool r4.2) rfl rfl) rfl rfl (enR (L' := [(6, .pointer (some ⟨g4, 0, none⟩)), (9, .pointer (some ⟨g8, 0, none⟩))]) rfl ?_))
  clear A25 S25 a25 w25;intro a26 w26 A26 S26
  refine nrm (wp_seq (wp_region_lit (rn A26 S26 (sop (opT_load_blk (g := g8) (off := 0) (E := 27) (l := [.int .i64 r4.1.1, v1, v2]) (d := [.int .i64 r4.1.1, v1, v2]) (u := .agg #[.int .i64 r4.1.1, v1, v2]) ti27 rfl rfl rfl rfl rfl rfl) (perm_front (i := 0) rfl) rfl rfl ?_))))
  rintro u a27 w27 hf A27 (S27 : St I w0 w27 [Ch.blk g8 [.int .i64 r4.1.1, v1, v2] 27, Ch.own (rSlice 4 rBool) [v1] r4.1.2.1, Ch.own (rSlice 34 (rSlice 3 rInt)) [v2] r4.1.2.2, Ch.blk g3 [va4] 100, Ch.blk g1 [.int .i64 p0a.1, va0, va1] 27, Ch.blk g2 [.int .i64 p1b.1, va2, va3] 27, Ch.blk g7 [.func (.func 165) #[] #[.pointer (some ⟨g5, 0, none⟩), .pointer (some ⟨g6, 0, none⟩)]] 133, Ch.blk g5 [.int .i64 p0a.1, va0, va1] 27, Ch.blk g6 [.int .i64 p1b.1, va2, va3] 27, Ch.blk g4 [.int .i64 0, .slice none 0 0, .slice none 0 0] 27, F])
  obtain rfl := Eq.symm hf
  clear A26 S26 a26 w26
  obtain ⟨r5, e5, hm⟩ := bind_some hm
  refine rn A27 S27 (sop (OpT.lend (ls := [Ch.own (rSlice 4 rBool) [v1] r4.1.2.1, Ch.own (rSlice 34 (rSlice 3 rInt)) [v2] r4.1.2.2]) (gv := fun v => [Ch.own (rSlice 4 rBool) [vg v [0, 1]] r5.1.2.1, Ch.own (rSlice 34 (rSlice 3 rInt)) [vg v [0, 2]] r5.1.2.2]) (fun _ => ⟨dp_own (dp_slice dp_bool), dp_own (dp_slice (dp_slice dp_int)), trivial⟩) fun J hJ hl hb => opT_call (args := #[.agg #[.int .i64 r4.1.1, v1, v2]]) (first := #[]) (captured := #[]) en127 rfl rfl rfl (c_i_small (r4.1.1, r4.1.2.1, r4.1.2.2) _ e5 v1 v2 (hl _ _ _ (List.Mem.head _)) (hl _ _ _ (List.Mem.tail _ (List.Mem.head _))))) (perm_sel [1, 2, 0, 3, 4, 5, 6, 7, 8, 9, 10] (m := 11) rfl rfl) rfl rfl ?_)
  rintro u a28 w28 ⟨v3, v4, rfl⟩ A28 (S28 : St I w0 w28 [Ch.own (rSlice 4 rBool) [v3] r5.1.2.1, Ch.own (rSlice 34 (rSlice 3 rInt)) [v4] r5.1.2.2, Ch.own (rSlice 4 rBool) [v1] r4.1.2.1, Ch.own (rSlice 34 (rSlice 3 rInt)) [v2] r4.1.2.2, Ch.blk g8 [.int .i64 r4.1.1, v1, v2] 27, Ch.blk g3 [va4] 100, Ch.blk g1 [.int .i64 p0a.1, va0, va1] 27, Ch.blk g2 [.int .i64 p1b.1, va2, va3] 27, Ch.blk g7 [.func (.func 165) #[] #[.pointer (some ⟨g5, 0, none⟩), .pointer (some ⟨g6, 0, none⟩)]] 133, Ch.blk g5 [.int .i64 p0a.1, va0, va1] 27, Ch.blk g6 [.int .i64 p1b.1, va2, va3] 27, Ch.blk g4 [.int .i64 0, .slice none 0 0, .slice none 0 0] 27, F])
  clear A27 S27 a27 w27
  refine rn A28 S28 (sv (opT_extract (vs := #[.agg #[.int .i64 r5.1.1, v3, v4], .bool r5.2]) (v := .agg #[.int .i64 r5.1.1, v3, v4]) rfl rfl rfl) rfl rfl (sv (opT_extract (vs := #[.agg #[.int .i64 r5.1.1, v3, v4], .bool r5.2]) (v := .bool r5.2) rfl rfl rfl) rfl rfl (sop (opT_store_blk (g := g4) (off := 0) (l := [.int .i64 0, .slice none 0 0, .slice none 0 0]) (d := [.int .i64 r5.1.1, v3, v4]) (E := 27) (u := .agg #[.int .i64 r5.1.1, v3, v4]) ti27 rfl rfl rfl rfl rfl (allC rfl (allC (Hd.one (St.hd S28 0 rfl).1) (allC (Hd.one (St.hd S28 1 rfl).1) allN))) (Nat.le_of_ble_eq_true rfl)) (perm_front (i := 11) rfl) rfl rfl ?_)))
  rintro _ a29 w29 - A29 (S29 : St I w0 w29 [Ch.blk g4 [.int .i64 r5.1.1, v3, v4] 27, Ch.own (rSlice 4 rBool) [v3] r5.1.2.1, Ch.own (rSlice 34 (rSlice 3 rInt)) [v4] r5.1.2.2, Ch.own (rSlice 4 rBool) [v1] r4.1.2.1, Ch.own (rSlice 34 (rSlice 3 rInt)) [v2] r4.1.2.2, Ch.blk g8 [.int .i64 r4.1.1, v1, v2] 27, Ch.blk g3 [va4] 100, Ch.blk g1 [.int .i64 p0a.1, va0, va1] 27, Ch.blk g2 [.int .i64 p1b.1, va2, va3] 27, Ch.blk g7 [.func (.func 165) #[] #[.pointer (some ⟨g5, 0, none⟩), .pointer (some ⟨g6, 0, none⟩)]] 133, Ch.blk g5 [.int .i64 p0a.1, va0, va1] 27, Ch.blk g6 [.int .i64 p1b.1, va2, va3] 27, F])
  clear A28 S28 a28 w28
  refine rn A29 S29 (sv (opT_assign (v := .bool r5.2) rfl rfl) rfl rfl (enR (L' := [(6, .pointer (some ⟨g4, 0, none⟩)), (7, .bool r5.2)]) rfl ?_))
  clear A29 S29 a29 w29;intro a30 w30 A30 S30
  refine nrm (wp_ret ?_)
  obtain rfl := Option.some.inj hm
  exact ret_2 A30 rfl (res_cell (g := g4) A30 rfl S30 0 rfl ti27 rfl) (res_tmp A30 rfl) ⟨_, rfl, ⟨_, _, rfl⟩, _, Hp.le.rfl, St.sel (S30) 13 [1, 2, 12] rfl rfl⟩
end Go.Proofs.Ytcihbmdppgpmjaa.D
