/- Printed by dec.py: models of functions and the walks that show them. -/
import Derived.Test.YtcihbmdppgpmjaaCw0_1
import Derived.Test.YtcihbmdppgpmjaaCw0_3
import Derived.Test.YtcihbmdppgpmjaaCw1_1
import Derived.Test.YtcihbmdppgpmjaaCw1_2
set_option linter.unusedVariables false
set_option linter.unusedSimpArgs false
set_option linter.unnecessarySimpa false
set_option maxRecDepth 100000
set_option maxHeartbeats 8000000
namespace Go.Proofs.Ytcihbmdppgpmjaa.D
open Go.RowKit
theorem c_w_toAutomaton (p0a : Int × (List Bool) × (List (List Int))) (r : Int × (List Bool) × (List (List Int))) (hm : m_w_toAutomaton p0a = some r) {I : Hp} {w0 : World} (va0 : Value) (va1 : Value) (ra0 : (rSlice 4 rBool).rd I [va0] p0a.2.1) (ra1 : (rSlice 34 (rSlice 3 rInt)).rd I [va1] p0a.2.2) : Con Try.prog 14 #[.agg #[.int .i64 p0a.1, va0, va1]] I w0 [] (fun v => ∃ h0 h1 : Value, v = .agg #[.int .i64 r.1, h0, h1]) (fun v => [Ch.own (rSlice 4 rBool) [vg v [1]] r.2.1, Ch.own (rSlice 34 (rSlice 3 rInt)) [vg v [2]] r.2.2]) := by
  refine con_of_wp (n := 16) [(0, .agg #[.int .i64 p0a.1, va0, va1])] Try.func14 rfl rfl (Nat.le_of_ble_eq_true rfl) (args_all ⟨rfl, trivial⟩) (fun F w a ha hs => ?_) (fun v => ⟨dp_own (dp_slice dp_bool), dp_own (dp_slice (dp_slice dp_int)), trivial⟩)
  unfold m_w_toAutomaton at hm
  refine wp_seq (wp_region_lit (rn ha hs (sop (opT_box (u := .agg #[.int .i64 p0a.1, va0, va1]) (l := [.int .i64 p0a.1, va0, va1]) rfl rfl rfl) (List.Perm.refl _) rfl rfl ?_)))
  rintro _ a1 w1 ⟨g1, rfl⟩ A1 (S1 : St I w0 w1 [Ch.blk g1 [.int .i64 p0a.1, va0, va1] 25, F])
  clear ha hs a w
  refine rn A1 S1 (sop (opT_alloc (l := [.int .i64 0, .slice none 0 0, .slice none 0 0]) tz27 rfl rfl) (List.Perm.refl _) rfl rfl ?_)
  rintro _ a2 w2 ⟨g2, rfl⟩ A2 (S2 : St I w0 w2 [Ch.blk g2 [.int .i64 0, .slice none 0 0, .slice none 0 0] 27, Ch.blk g1 [.int .i64 p0a.1, va0, va1] 25, F])
  clear A1 S1 a1 w1
  replace A2 := A2.pk (L' := [(1, .pointer (some ⟨g1, 0, none⟩)), (2, .pointer (some ⟨g2, 0, none⟩))]) rfl
  refine wpList_nil (nrm (wp_seq (wp_region_lit (rn A2 S2 (sop (opT_alloc (l := [.int .i64 0, .slice none 0 0, .slice none 0 0]) tz27 rfl rfl) (List.Perm.refl _) rfl rfl ?_)))))
  rintro _ a3 w3 ⟨g3, rfl⟩ A3 (S3 : St I w0 w3 [Ch.blk g3 [.int .i64 0, .slice none 0 0, .slice none 0 0] 27, Ch.blk g2 [.int .i64 0, .slice none 0 0, .slice none 0 0] 27, Ch.blk g1 [.int .i64 p0a.1, va0, va1] 25, F])
  clear A2 S2 a2 w2
  replace A3 := A3.pk (L' := [(1, .pointer (some ⟨g1, 0, none⟩)), (2, .pointer (some ⟨g2, 0, none⟩)), (3, .pointer (some ⟨g3, 0, none⟩))]) rfl
  refine wpList_nil (nrm (wp_seq (wp_region_lit (rn A3 S3 (sv (opT_field_addr (g := g1) (b := 0) tf25_0 rfl rfl) rfl rfl (sop (opT_load_blk (g := g1) (off := 0) (E := 25) (l := [.int .i64 p0a.1, va0, va1]) (d := [.int .i64 p0a.1]) (u := .int .i64 p0a.1) ti3 rfl rfl rfl rfl rfl rfl) (perm_front (i := 2) rfl) rfl rfl ?_))))))
  rintro u a4 w4 hf A4 (S4 : St I w0 w4 [Ch.blk g1 [.int .i64 p0a.1, va0, va1] 25, Ch.blk g3 [.int .i64 0, .slice none 0 0, .slice none 0 0] 27, Ch.blk g2 [.int .i64 0, .slice none 0 0, .slice none 0 0] 27, F])
  obtain rfl := Eq.symm hf
  clear A3 S3 a3 w3
  refine rn A4 S4 (sv (opT_field_addr (g := g3) (b := 0) tf27_0 rfl rfl) rfl rfl (sop (opT_store_blk (g := g3) (off := 0) (l := [.int .i64 0, .slice none 0 0, .slice none 0 0]) (d := [.int .i64 p0a.1]) (E := 27) (u := .int .i64 p0a.1) ti3 rfl rfl rfl rfl rfl (allC rfl allN) (Nat.le_of_ble_eq_true rfl)) (perm_front (i := 1) rfl) rfl rfl ?_))
  rintro _ a5 w5 - A5 (S5 : St I w0 w5 [Ch.blk g3 [.int .i64 p0a.1, .slice none 0 0, .slice none 0 0] 27, Ch.blk g1 [.int .i64 p0a.1, va0, va1] 25, Ch.blk g2 [.int .i64 0, .slice none 0 0, .slice none 0 0] 27, F])
  clear A4 S4 a4 w4
  replace A5 := A5.pk (L' := [(1, .pointer (some ⟨g1, 0, none⟩)), (2, .pointer (some ⟨g2, 0, none⟩)), (3, .pointer (some ⟨g3, 0, none⟩))]) rfl
  refine wpList_nil (nrm (wp_seq (wp_region_lit (rn A5 S5 (sv (opT_field_addr (g := g1) (b := 0) tf25_1 rfl rfl) rfl rfl (sop (opT_load_blk (g := g1) (off := 1) (E := 25) (l := [.int .i64 p0a.1, va0, va1]) (d := [va0]) (u := va0) ti22 rfl rfl rfl rfl rfl rfl) (perm_front (i := 1) rfl) rfl rfl ?_))))))
  rintro u a6 w6 hf A6 (S6 : St I w0 w6 [Ch.blk g1 [.int .i64 p0a.1, va0, va1] 25, Ch.blk g3 [.int .i64 p0a.1, .slice none 0 0, .slice none 0 0] 27, Ch.blk g2 [.int .i64 0, .slice none 0 0, .slice none 0 0] 27, F])
  obtain rfl := Eq.symm hf
  clear A5 S5 a5 w5
  obtain ⟨r1, e1, hm⟩ := bind_some hm
  refine rn A6 S6 (sop (opT_call (args := #[va0]) (first := #[]) (captured := #[]) en49 rfl rfl rfl (c_w_toBoolS p0a.2.1 _ e1 va0 ra0)) (List.Perm.refl _) rfl rfl ?_)
  rintro v1 a7 w7 - A7 (S7 : St I w0 w7 [Ch.own (rSlice 4 rBool) [v1] r1, Ch.blk g1 [.int .i64 p0a.1, va0, va1] 25, Ch.blk g3 [.int .i64 p0a.1, .slice none 0 0, .slice none 0 0] 27, Ch.blk g2 [.int .i64 0, .slice none 0 0, .slice none 0 0] 27, F])
  clear A6 S6 a6 w6
  refine rn A7 S7 (sv (opT_field_addr (g := g3) (b := 0) tf27_1 rfl rfl) rfl rfl (sop (opT_store_blk (g := g3) (off := 1) (l := [.int .i64 p0a.1, .slice none 0 0, .slice none 0 0]) (d := [v1]) (E := 27) (u := v1) ti22 rfl rfl rfl (Hd.cells (St.hd S7 0 rfl).1) rfl (allC (Hd.one (St.hd S7 0 rfl).1) allN) (Nat.le_of_ble_eq_true rfl)) (perm_front (i := 2) rfl) rfl rfl ?_))
  rintro _ a8 w8 - A8 (S8 : St I w0 w8 [Ch.blk g3 [.int .i64 p0a.1, v1, .slice none 0 0] 27, Ch.own (rSlice 4 rBool) [v1] r1, Ch.blk g1 [.int .i64 p0a.1, va0, va1] 25, Ch.blk g2 [.int .i64 0, .slice none 0 0, .slice none 0 0] 27, F])
  clear A7 S7 a7 w7
  replace A8 := A8.pk (L' := [(1, .pointer (some ⟨g1, 0, none⟩)), (2, .pointer (some ⟨g2, 0, none⟩)), (3, .pointer (some ⟨g3, 0, none⟩))]) rfl
  refine wpList_nil (nrm (wp_seq (wp_region_lit (rn A8 S8 (sv (opT_field_addr (g := g1) (b := 0) tf25_2 rfl rfl) rfl rfl (sop (opT_load_blk (g := g1) (off := 2) (E := 25) (l := [.int .i64 p0a.1, va0, va1]) (d := [va1]) (u := va1) ti23 rfl rfl rfl rfl rfl rfl) (perm_front (i := 2) rfl) rfl rfl ?_))))))
  rintro u a9 w9 hf A9 (S9 : St I w0 w9 [Ch.blk g1 [.int .i64 p0a.1, va0, va1] 25, Ch.blk g3 [.int .i64 p0a.1, v1, .slice none 0 0] 27, Ch.own (rSlice 4 rBool) [v1] r1, Ch.blk g2 [.int .i64 0, .slice none 0 0, .slice none 0 0] 27, F])
  obtain rfl := Eq.symm hf
  clear A8 S8 a8 w8
  obtain ⟨r2, e2, hm⟩ := bind_some hm
  refine rn A9 S9 (sop (opT_call (args := #[va1]) (first := #[]) (captured := #[]) en50 rfl rfl rfl (c_w_toIntSS p0a.2.2 _ e2 va1 ra1)) (List.Perm.refl _) rfl rfl ?_)
  rintro v2 a10 w10 - A10 (S10 : St I w0 w10 [Ch.own (rSlice 34 (rSlice 3 rInt)) [v2] r2, Ch.blk g1 [.int .i64 p0a.1, va0, va1] 25, Ch.blk g3 [.int .i64 p0a.1, v1, .slice none 0 0] 27, Ch.own (rSlice 4 rBool) [v1] r1, Ch.blk g2 [.int .i64 0, .slice none 0 0, .slice none 0 0] 27, F])
  clear A9 S9 a9 w9
  refine rn A10 S10 (sv (opT_field_addr (g := g3) (b := 0) tf27_2 rfl rfl) rfl rfl (sop (opT_store_blk (g := g3) (off := 2) (l := [.int .i64 p0a.1, v1, .slice none 0 0]) (d := [v2]) (E := 27) (u := v2) ti23 rfl rfl rfl (Hd.cells (St.hd S10 0 rfl).1) rfl (allC (Hd.one (St.hd S10 0 rfl).1) allN) (Nat.le_of_ble_eq_true rfl)) (perm_front (i := 2) rfl) rfl rfl ?_))
  rintro _ a11 w11 - A11 (S11 : St I w0 w11 [Ch.blk g3 [.int .i64 p0a.1, v1, v2] 27, Ch.own (rSlice 34 (rSlice 3 rInt)) [v2] r2, Ch.blk g1 [.int .i64 p0a.1, va0, va1] 25, Ch.own (rSlice 4 rBool) [v1] r1, Ch.blk g2 [.int .i64 0, .slice none 0 0, .slice none 0 0] 27, F])
  clear A10 S10 a10 w10
  replace A11 := A11.pk (L' := [(2, .pointer (some ⟨g2, 0, none⟩)), (3, .pointer (some ⟨g3, 0, none⟩))]) rfl
  refine wpList_nil (nrm (wp_seq (wp_region_lit (rn A11 S11 (sop (opT_load_blk (g := g3) (off := 0) (E := 27) (l := [.int .i64 p0a.1, v1, v2]) (d := [.int .i64 p0a.1, v1, v2]) (u := .agg #[.int .i64 p0a.1, v1, v2]) ti27 rfl rfl rfl rfl rfl rfl) (perm_front (i := 0) rfl) rfl rfl ?_)))))
  rintro u a12 w12 hf A12 (S12 : St I w0 w12 [Ch.blk g3 [.int .i64 p0a.1, v1, v2] 27, Ch.own (rSlice 34 (rSlice 3 rInt)) [v2] r2, Ch.blk g1 [.int .i64 p0a.1, va0, va1] 25, Ch.own (rSlice 4 rBool) [v1] r1, Ch.blk g2 [.int .i64 0, .slice none 0 0, .slice none 0 0] 27, F])
  obtain rfl := Eq.symm hf
  clear A11 S11 a11 w11
  refine rn A12 S12 (sop (opT_store_blk (g := g2) (off := 0) (l := [.int .i64 0, .slice none 0 0, .slice none 0 0]) (d := [.int .i64 p0a.1, v1, v2]) (E := 27) (u := .agg #[.int .i64 p0a.1, v1, v2]) ti27 rfl rfl rfl rfl rfl (allC rfl (allC (Hd.one (St.hd S12 3 rfl).1) (allC (Hd.one (St.hd S12 1 rfl).1) allN))) (Nat.le_of_ble_eq_true rfl)) (perm_front (i := 4) rfl) rfl rfl ?_)
  rintro _ a13 w13 - A13 (S13 : St I w0 w13 [Ch.blk g2 [.int .i64 p0a.1, v1, v2] 27, Ch.blk g3 [.int .i64 p0a.1, v1, v2] 27, Ch.own (rSlice 34 (rSlice 3 rInt)) [v2] r2, Ch.blk g1 [.int .i64 p0a.1, va0, va1] 25, Ch.own (rSlice 4 rBool) [v1] r1, F])
  clear A12 S12 a12 w12
  replace A13 := A13.pk (L' := [(2, .pointer (some ⟨g2, 0, none⟩))]) rfl
  refine wpList_nil (nrm (wp_ret ?_))
  obtain rfl := Option.some.inj hm
  exact ret_1 A13 rfl (res_cell (g := g2) A13 rfl S13 0 rfl ti27 rfl) ⟨_, rfl, ⟨_, _, rfl⟩, _, Hp.le.rfl, St.sel (S13) 6 [4, 2, 5] rfl rfl⟩
theorem c_i_Automaton_move (p0a : Int × (List Bool) × (List (List Int))) (p1s : Int) (p2letter : Int) (r : Int) (hm : m_i_Automaton_move p0a p1s p2letter = some r) {I : Hp} {w0 : World} (va0 : Value) (va1 : Value) (ra0 : (rSlice 4 rBool).rd I [va0] p0a.2.1) (ra1 : (rSlice 34 (rSlice 3 rInt)).rd I [va1] p0a.2.2) : Con Try.prog 101 #[.agg #[.int .i64 p0a.1, va0, va1], .int .i64 p1s, .int .i64 p2letter] I w0 [] (fun v => v = .int .i64 r) (fun v => []) := by
  refine con_of_wp (n := 22) [(0, .agg #[.int .i64 p0a.1, va0, va1]), (1, .int .i64 p1s), (2, .int .i64 p2letter)] Try.func101 rfl rfl (Nat.le_of_ble_eq_true rfl) (args_all ⟨rfl, rfl, rfl, trivial⟩) (fun F w a ha hs => ?_) (fun v => trivial)
  unfold m_i_Automaton_move at hm
  refine wp_seq (wp_region_lit (rn ha hs (sop (opT_box (u := .agg #[.int .i64 p0a.1, va0, va1]) (l := [.int .i64 p0a.1, va0, va1]) rfl rfl rfl) (List.Perm.refl _) rfl rfl ?_)))
  rintro _ a1 w1 ⟨g1, rfl⟩ A1 (S1 : St I w0 w1 [Ch.blk g1 [.int .i64 p0a.1, va0, va1] 27, F])
  clear ha hs a w
  refine rn A1 S1 (sv (opT_assign (v := .int .i64 0) rfl rfl) rfl rfl (enR (L' := [(1, .int .i64 p1s), (2, .int .i64 p2letter), (3, .pointer (some ⟨g1, 0, none⟩))]) rfl ?_))
  clear A1 S1 a1 w1;intro a2 w2 A2 S2
  refine nrm (wp_seq (wp_seq (wp_region_lit (rn A2 S2 (sv (opT_move (v := .int .i64 p1s) rfl rfl) rfl rfl (sv (opT_cmp (k := .i64) (m := p1s) (n := 0) (c := decide (p1s < 0)) rfl rfl rfl rfl rfl) rfl rfl (sv (opT_move (v := .bool (decide (p1s < 0))) rfl rfl) rfl rfl ?_)))))))
  rcases two (decide (p1s < 0)) with hb1 | hb1
  · replace hm := ifFe hb1 hm
    refine svg (g := 2) (d := 9) (want := false) (b := decide (p1s < 0)) rfl rfl rfl hb1 (opT_move (v := .int .i64 p2letter) rfl rfl) rfl ?_
    obtain ⟨r1, e1, hm⟩ := bind_some hm
    refine so0g (g := 2) (d := 9) (want := false) (b := decide (p1s < 0)) rfl rfl rfl hb1 (opT_call (args := #[.int .i64 p2letter]) (first := #[]) (captured := #[]) en149 rfl rfl rfl (c_i_isLetter p2letter _ e1  )) rfl ?_
    rintro u a3 w3 hf A3 S3
    obtain rfl := Eq.symm hf
    clear A2 S2 a2 w2
    refine rn A3 S3 (svg (g := 2) (d := 9) (want := false) (b := decide (p1s < 0)) rfl rfl rfl hb1 (opT_not (b := r1) rfl rfl) rfl (sv (opT_pick (b := decide (p1s < 0)) (v := .bool (!r1)) rfl rfl (ifF hb1)) rfl rfl (enR (L' := [(1, .int .i64 p1s), (2, .int .i64 p2letter), (3, .pointer (some ⟨g1, 0, none⟩)), (13, .bool (!r1))]) rfl ?_)))
    clear A3 S3 a3 w3;intro a4 w4 A4 S4
    refine nrm ?_
    rcases two (r1) with hb2 | hb2
    · replace hm := ifFe hb2 hm
      refine cnd_true (b := !r1) A4 rfl rfl (notT hb2) ?_
      refine wp_seq (wp_region_lit (rn A4 S4 (sv (opT_assign (v := .int .i64 (-1)) rfl rfl) rfl rfl (enR (L' := [(6, .int .i64 (-1))]) rfl ?_))))
      clear A4 S4 a4 w4;intro a5 w5 A5 S5
      refine nrm (wp_ret (thenR ?_))
      obtain rfl := Option.some.inj hm
      exact ret_1 A5 rfl (res_tmp A5 rfl) ⟨_, rfl, rfl, _, Hp.le.rfl, St.sel (S5) 2 [1] rfl rfl⟩
    replace hm := ifTe hb2 hm
    refine cnd_false (b := !r1) A4 rfl rfl (notF hb2) ?_
    refine wp_skip (nrm (wp_seq (wp_region_lit (rn A4 S4 (sv (opT_field_addr (g := g1) (b := 0) tf27_2 rfl rfl) rfl rfl (sop (opT_load_blk (g := g1) (off := 2) (E := 27) (l := [.int .i64 p0a.1, va0, va1]) (d := [va1]) (u := va1) ti23 rfl rfl rfl rfl rfl rfl) (perm_front (i := 0) rfl) rfl rfl ?_))))))
    rintro u a6 w6 hf A6 (S6 : St I w0 w6 [Ch.blk g1 [.int .i64 p0a.1, va0, va1] 27, F])
    obtain rfl := Eq.symm hf
    clear A4 S4 a4 w4
    refine rn A6 S6 (sv (opT_move (v := .int .i64 p1s) rfl rfl) rfl rfl ?_)
    obtain ⟨x1, e2, hm⟩ := bind_some hm
    refine sv (opT_index_hd (xs := p0a.2.2) (i := p1s) (n := 1) (Hd.of_rd ra1) Try.underlying23 ti34 rfl rfl rfl (getI_in e2)) rfl rfl (so0 (opT_load_el (S := rSlice 3 rInt) (xs := p0a.2.2) (a := x1) (i := p1s) (k := 1) (off := 0) (f := fun (x : List Int) => x) ra1 e2 Fld.self ti34 rfl rfl rfl rfl rfl) rfl rfl ?_)
    rintro v1 a7 w7 hf A7 S7
    have r2 := lds_sl hf
    clear hf
    clear A6 S6 a6 w6
    refine rn A7 S7 (sv (opT_move (v := .int .i64 p2letter) rfl rfl) rfl rfl ?_)
    obtain ⟨x2, e3, hm⟩ := bind_some hm
    refine sv (opT_index_hd (xs := x1) (i := p2letter) (n := 1) (Hd.of_rd r2) Try.underlying34 ti3 rfl rfl rfl (getI_in e3)) rfl rfl (so0 (opT_load_el (S := rInt) (xs := x1) (a := x2) (i := p2letter) (k := 1) (off := 0) (f := fun (x : Int) => x) r2 e3 Fld.self ti3 rfl rfl rfl rfl rfl) rfl rfl ?_)
    rintro u a8 w8 hf A8 S8
    obtain rfl := lds_one hf
    clear A7 S7 a7 w7
    refine rn A8 S8 (sv (opT_assign (v := .int .i64 x2) rfl rfl) rfl rfl (enR (L' := [(6, .int .i64 x2)]) rfl ?_))
    clear A8 S8 a8 w8;intro a9 w9 A9 S9
    refine nrm (wp_ret ?_)
    obtain rfl := Option.some.inj hm
    exact ret_1 A9 rfl (res_tmp A9 rfl) ⟨_, rfl, rfl, _, Hp.le.rfl, St.sel (S9) 2 [1] rfl rfl⟩
  replace hm := ifTe hb1 hm
  refine ssk (g := 2) (d := 9) (want := false) (b := decide (p1s < 0)) rfl rfl rfl hb1 rfl (ssk (g := 2) (d := 9) (want := false) (b := decide (p1s < 0)) rfl rfl rfl hb1 rfl (ssk (g := 2) (d := 9) (want := false) (b := decide (p1s < 0)) rfl rfl rfl hb1 rfl (sv (opT_pick (b := decide (p1s < 0)) (v := .bool true) rfl rfl (ifT hb1)) rfl rfl (enR (L' := [(1, .int .i64 p1s), (2, .int .i64 p2letter), (3, .pointer (some ⟨g1, 0, none⟩)), (13, .bool true)]) rfl ?_))))
  clear A2 S2 a2 w2;intro a10 w10 A10 S10
  refine nrm (cnd_true (b := true) A10 rfl rfl rfl ?_)
  refine wp_seq (wp_region_lit (rn A10 S10 (sv (opT_assign (v := .int .i64 (-1)) rfl rfl) rfl rfl (enR (L' := [(6, .int .i64 (-1))]) rfl ?_))))
  clear A10 S10 a10 w10;intro a11 w11 A11 S11
  refine nrm (wp_ret (thenR ?_))
  obtain rfl := Option.some.inj hm
  exact ret_1 A11 rfl (res_tmp A11 rfl) ⟨_, rfl, rfl, _, Hp.le.rfl, St.sel (S11) 2 [1] rfl rfl⟩
theorem c_w_heldAutomaton (p0a : Int × (List Bool) × (List (List Int))) (p1k : Int) (r : Int) (hm : m_w_heldAutomaton p0a p1k = some r) {I : Hp} {w0 : World} (va0 : Value) (va1 : Value) (ra0 : (rSlice 4 rBool).rd I [va0] p0a.2.1) (ra1 : (rSlice 34 (rSlice 3 rInt)).rd I [va1] p0a.2.2) : Con Try.prog 18 #[.agg #[.int .i64 p0a.1, va0, va1], .int .i64 p1k] I w0 [] (fun v => v = .int .i64 r) (fun v => []) := by
  refine con_of_wp (n := 18) [(0, .agg #[.int .i64 p0a.1, va0, va1]), (1, .int .i64 p1k)] Try.func18 rfl rfl (Nat.le_of_ble_eq_true rfl) (args_all ⟨rfl, rfl, trivial⟩) (fun F w a ha hs => ?_) (fun v => trivial)
  unfold m_w_heldAutomaton at hm
  refine wp_seq (wp_region_lit (rn ha hs (sop (opT_box (u := .agg #[.int .i64 p0a.1, va0, va1]) (l := [.int .i64 p0a.1, va0, va1]) rfl rfl rfl) (List.Perm.refl _) rfl rfl ?_)))
  rintro _ a1 w1 ⟨g1, rfl⟩ A1 (S1 : St I w0 w1 [Ch.blk g1 [.int .i64 p0a.1, va0, va1] 27, F])
  clear ha hs a w
  refine rn A1 S1 (sv (opT_assign (v := .int .i64 0) rfl rfl) rfl rfl (enR (L' := [(1, .int .i64 p1k), (2, .pointer (some ⟨g1, 0, none⟩))]) rfl ?_))
  clear A1 S1 a1 w1;intro a2 w2 A2 S2
  refine nrm (wp_seq (wp_region_lit (rn A2 S2 (sv (opT_field_addr (g := g1) (b := 0) tf27_1 rfl rfl) rfl rfl (sop (opT_load_blk (g := g1) (off := 1) (E := 27) (l := [.int .i64 p0a.1, va0, va1]) (d := [va0]) (u := va0) ti22 rfl rfl rfl rfl rfl rfl) (perm_front (i := 0) rfl) rfl rfl ?_)))))
  rintro u a3 w3 hf A3 (S3 : St I w0 w3 [Ch.blk g1 [.int .i64 p0a.1, va0, va1] 27, F])
  obtain rfl := Eq.symm hf
  clear A2 S2 a2 w2
  refine rn A3 S3 (sv (opT_move (v := .int .i64 p1k) rfl rfl) rfl rfl ?_)
  obtain ⟨r1, e1, hm⟩ := bind_some hm
  refine so0 (opT_call (args := #[va0, .int .i64 p1k]) (first := #[]) (captured := #[]) en57 rfl rfl rfl (c_w_heldBoolS p0a.2.1 p1k _ e1 va0 ra0)) rfl rfl ?_
  rintro u a4 w4 hf A4 S4
  obtain rfl := Eq.symm hf
  clear A3 S3 a3 w3
  refine rn A4 S4 (sv (opT_assign (v := .int .i64 r1) rfl rfl) rfl rfl (enR (L' := [(1, .int .i64 r1), (2, .pointer (some ⟨g1, 0, none⟩))]) rfl ?_))
  clear A4 S4 a4 w4;intro a5 w5 A5 S5
  refine nrm (wp_seq (wp_seq (wp_region_lit (rn A5 S5 (sv (opT_move (v := .int .i64 r1) rfl rfl) rfl rfl (sv (opT_cmp (k := .i64) (m := r1) (n := 0) (c := decide (r1 < 0)) rfl rfl rfl rfl rfl) rfl rfl (enR (L' := [(1, .int .i64 r1), (2, .pointer (some ⟨g1, 0, none⟩)), (10, .bool (decide (r1 < 0)))]) rfl ?_)))))))
  clear A5 S5 a5 w5;intro a6 w6 A6 S6
  refine nrm ?_
  rcases two (decide (r1 < 0)) with hb1 | hb1
  · replace hm := ifFe hb1 hm
    refine cnd_false (b := decide (r1 < 0)) A6 rfl rfl hb1 ?_
    refine wp_skip (nrm (wp_seq (wp_region_lit (rn A6 S6 (sv (opT_field_addr (g := g1) (b := 0) tf27_2 rfl rfl) rfl rfl (sop (opT_load_blk (g := g1) (off := 2) (E := 27) (l := [.int .i64 p0a.1, va0, va1]) (d := [va1]) (u := va1) ti23 rfl rfl rfl rfl rfl rfl) (perm_front (i := 0) rfl) rfl rfl ?_))))))
    rintro u a7 w7 hf A7 (S7 : St I w0 w7 [Ch.blk g1 [.int .i64 p0a.1, va0, va1] 27, F])
    obtain rfl := Eq.symm hf
    clear A6 S6 a6 w6
    refine rn A7 S7 (sv (opT_move (v := .int .i64 r1) rfl rfl) rfl rfl ?_)
    obtain ⟨r2, e2, hm⟩ := bind_some hm
    refine so0 (opT_call (args := #[va1, .int .i64 r1]) (first := #[]) (captured := #[]) en58 rfl rfl rfl (c_w_heldIntSS p0a.2.2 r1 _ e2 va1 ra1)) rfl rfl ?_
    rintro u a8 w8 hf A8 S8
    obtain rfl := Eq.symm hf
    clear A7 S7 a7 w7
    refine rn A8 S8 (sv (opT_assign (v := .int .i64 r2) rfl rfl) rfl rfl (enR (L' := [(1, .int .i64 r2)]) rfl ?_))
    clear A8 S8 a8 w8;intro a9 w9 A9 S9
    refine nrm (wp_seq (wp_seq (wp_region_lit (rn A9 S9 (sv (opT_move (v := .int .i64 r2) rfl rfl) rfl rfl (sv (opT_cmp (k := .i64) (m := r2) (n := 0) (c := decide (r2 < 0)) rfl rfl rfl rfl rfl) rfl rfl (enR (L' := [(1, .int .i64 r2), (16, .bool (decide (r2 < 0)))]) rfl ?_)))))))
    clear A9 S9 a9 w9;intro a10 w10 A10 S10
    refine nrm ?_
    rcases two (decide (r2 < 0)) with hb2 | hb2
    · replace hm := ifFe hb2 hm
      refine cnd_false (b := decide (r2 < 0)) A10 rfl rfl hb2 ?_
      refine wp_skip (nrm (wp_seq (wp_region_lit (rn A10 S10 (sv (opT_move (v := .int .i64 r2) rfl rfl) rfl rfl (sv (opT_assign (v := .int .i64 r2) rfl rfl) rfl rfl (enR (L' := [(4, .int .i64 r2)]) rfl ?_)))))))
      clear A10 S10 a10 w10;intro a11 w11 A11 S11
      refine nrm (wp_ret ?_)
      obtain rfl := Option.some.inj hm
      exact ret_1 A11 rfl (res_tmp A11 rfl) ⟨_, rfl, rfl, _, Hp.le.rfl, St.sel (S11) 2 [1] rfl rfl⟩
    replace hm := ifTe hb2 hm
    refine cnd_true (b := decide (r2 < 0)) A10 rfl rfl hb2 ?_
    refine wp_seq (wp_region_lit (rn A10 S10 (sv (opT_assign (v := .int .i64 (-1)) rfl rfl) rfl rfl (enR (L' := [(4, .int .i64 (-1))]) rfl ?_))))
    clear A10 S10 a10 w10;intro a12 w12 A12 S12
    refine nrm (wp_ret (thenR ?_))
    obtain rfl := Option.some.inj hm
    exact ret_1 A12 rfl (res_tmp A12 rfl) ⟨_, rfl, rfl, _, Hp.le.rfl, St.sel (S12) 2 [1] rfl rfl⟩
  replace hm := ifTe hb1 hm
  refine cnd_true (b := decide (r1 < 0)) A6 rfl rfl hb1 ?_
  refine wp_seq (wp_region_lit (rn A6 S6 (sv (opT_assign (v := .int .i64 (-1)) rfl rfl) rfl rfl (enR (L' := [(4, .int .i64 (-1))]) rfl ?_))))
  clear A6 S6 a6 w6;intro a13 w13 A13 S13
  refine nrm (wp_ret (thenR ?_))
  obtain rfl := Option.some.inj hm
  exact ret_1 A13 rfl (res_tmp A13 rfl) ⟨_, rfl, rfl, _, Hp.le.rfl, St.sel (S13) 2 [1] rfl rfl⟩
end Go.Proofs.Ytcihbmdppgpmjaa.D
