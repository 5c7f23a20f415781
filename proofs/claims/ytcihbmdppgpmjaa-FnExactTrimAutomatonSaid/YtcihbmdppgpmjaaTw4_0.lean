/- Printed by dec.py: models of functions and the walks that show them. -/
import Derived.Test.YtcihbmdppgpmjaaTw0_0
import Derived.Test.YtcihbmdppgpmjaaTw0_2
import Derived.Test.YtcihbmdppgpmjaaTw1_1
import Derived.Test.YtcihbmdppgpmjaaTw3_1
import Derived.Test.YtcihbmdppgpmjaaTw3_2
set_option linter.unusedVariables false
set_option linter.unusedSimpArgs false
set_option linter.unnecessarySimpa false
set_option maxRecDepth 100000
namespace Go.Proofs.Ytcihbmdppgpmjaa.D
open Go.RowKit
set_option maxHeartbeats 8000000 in
theorem c_i_Automaton_trim (p0a : Int × (List Bool) × (List (List Int))) (r : Int × (List Bool) × (List (List Int))) (hm : m_i_Automaton_trim p0a = some r) {I : Hp} {w0 : World} (va0 : Value) (va1 : Value) (ra0 : (rSlice 4 rBool).rd I [va0] p0a.2.1) (ra1 : (rSlice 34 (rSlice 3 rInt)).rd I [va1] p0a.2.2) : Con Try.prog 52 #[.agg #[.int .i64 p0a.1, va0, va1]] I w0 [] (fun v => ∃ h0 h1 : Value, v = .agg #[.int .i64 r.1, h0, h1]) (fun v => [Ch.own (rSlice 4 rBool) [vg v [1]] r.2.1, Ch.own (rSlice 34 (rSlice 3 rInt)) [vg v [2]] r.2.2]) := by
  refine con_of_wp (n := 28) [(0, .agg #[.int .i64 p0a.1, va0, va1])] Try.func52 rfl rfl (Nat.le_of_ble_eq_true rfl) (args_all ⟨rfl, trivial⟩) (fun F w a ha hs => ?_) (fun v => ⟨dp_own (dp_slice dp_bool), dp_own (dp_slice (dp_slice dp_int)), trivial⟩)
  unfold m_i_Automaton_trim at hm
  refine wp_seq ?_
  refine wp_region_lit ?_
  refine seq_op ha hs rfl (opT_box (u := .agg #[.int .i64 p0a.1, va0, va1]) (l := [.int .i64 p0a.1, va0, va1]) rfl rfl rfl) (List.Perm.refl _) rfl ?_
  rintro _ aq1 wq1 ⟨g1, rfl⟩ haq1 (hsq1 : St I w0 wq1 [Ch.blk g1 [.int .i64 p0a.1, va0, va1] 27, F])
  clear ha hs a w
  refine seq_op haq1 hsq1 rfl (opT_alloc (l := [.int .i64 0, .slice none 0 0, .slice none 0 0]) tz27 rfl rfl) (List.Perm.refl _) rfl ?_
  rintro _ aq2 wq2 ⟨g2, rfl⟩ haq2 (hsq2 : St I w0 wq2 [Ch.blk g2 [.int .i64 0, .slice none 0 0, .slice none 0 0] 27, Ch.blk g1 [.int .i64 p0a.1, va0, va1] 27, F])
  clear haq1 hsq1 aq1 wq1
  refine wpList_nil ?_
  replace haq2 := haq2.pick' (L' := [(1, .pointer (some ⟨g1, 0, none⟩)), (2, .pointer (some ⟨g2, 0, none⟩))]) ⟨rfl, rfl, trivial⟩
  refine nrm ?_
  refine wp_seq ?_
  refine wp_region_lit ?_
  refine seq_op haq2 hsq2 rfl (opT_load_blk (g := g1) (off := 0) (E := 27) (l := [.int .i64 p0a.1, va0, va1]) (d := [.int .i64 p0a.1, va0, va1]) (u := .agg #[.int .i64 p0a.1, va0, va1]) ti27 rfl rfl rfl rfl rfl rfl) (perm_front (i := 1) rfl) rfl ?_
  rintro u aq3 wq3 hf haq3 (hsq3 : St I w0 wq3 [Ch.blk g1 [.int .i64 p0a.1, va0, va1] 27, Ch.blk g2 [.int .i64 0, .slice none 0 0, .slice none 0 0] 27, F])
  obtain rfl := Eq.symm hf
  clear haq2 hsq2 aq2 wq2
  obtain ⟨r1, e1, hm⟩ := bind_some hm
  refine seq_op haq3 hsq3 rfl (opT_call (args := #[.agg #[.int .i64 p0a.1, va0, va1]]) (first := #[]) (captured := #[]) en96 rfl rfl rfl (c_i_Automaton_live (p0a.1, p0a.2.1, p0a.2.2) _ e1 va0 va1 ra0 ra1)) (List.Perm.refl _) rfl ?_
  rintro v1 aq4 wq4 - haq4 (hsq4 : St I w0 wq4 [Ch.own (rSlice 4 rBool) [v1] r1, Ch.blk g1 [.int .i64 p0a.1, va0, va1] 27, Ch.blk g2 [.int .i64 0, .slice none 0 0, .slice none 0 0] 27, F])
  clear haq3 hsq3 aq3 wq3
  refine seq_op haq4 hsq4 rfl (opT_alloc (l := [.slice none 0 0]) tz22 rfl rfl) (List.Perm.refl _) rfl ?_
  rintro _ aq5 wq5 ⟨g3, rfl⟩ haq5 (hsq5 : St I w0 wq5 [Ch.blk g3 [.slice none 0 0] 22, Ch.own (rSlice 4 rBool) [v1] r1, Ch.blk g1 [.int .i64 p0a.1, va0, va1] 27, Ch.blk g2 [.int .i64 0, .slice none 0 0, .slice none 0 0] 27, F])
  clear haq4 hsq4 aq4 wq4
  refine seq_op haq5 hsq5 rfl (opT_store_blk (g := g3) (off := 0) (l := [.slice none 0 0]) (d := [v1]) (E := 22) (u := v1) ti22 rfl rfl rfl (Hd.cells (St.hd hsq5 1 rfl).1) rfl (allC (Hd.one (St.hd hsq5 1 rfl).1) allN) (Nat.le_of_ble_eq_true rfl)) (perm_front (i := 0) rfl) rfl ?_
  rintro _ aq6 wq6 - haq6 (hsq6 : St I w0 wq6 [Ch.blk g3 [v1] 22, Ch.own (rSlice 4 rBool) [v1] r1, Ch.blk g1 [.int .i64 p0a.1, va0, va1] 27, Ch.blk g2 [.int .i64 0, .slice none 0 0, .slice none 0 0] 27, F])
  clear haq5 hsq5 aq5 wq5
  refine wpList_nil ?_
  replace haq6 := haq6.pick' (L' := [(1, .pointer (some ⟨g1, 0, none⟩)), (2, .pointer (some ⟨g2, 0, none⟩)), (3, .pointer (some ⟨g3, 0, none⟩))]) ⟨rfl, rfl, rfl, trivial⟩
  refine nrm ?_
  refine wp_seq ?_
  refine wp_seq ?_
  refine wp_region_lit ?_
  refine seq_op haq6 hsq6 rfl (opT_load_blk (g := g3) (off := 0) (E := 22) (l := [v1]) (d := [v1]) (u := v1) ti22 rfl rfl rfl rfl rfl rfl) (perm_front (i := 0) rfl) rfl ?_
  rintro u aq7 wq7 hf haq7 (hsq7 : St I w0 wq7 [Ch.blk g3 [v1] 22, Ch.own (rSlice 4 rBool) [v1] r1, Ch.blk g1 [.int .i64 p0a.1, va0, va1] 27, Ch.blk g2 [.int .i64 0, .slice none 0 0, .slice none 0 0] 27, F])
  obtain rfl := Eq.symm hf
  clear haq6 hsq6 aq6 wq6
  refine seq_op0 haq7 hsq7 (opT_field_addr (g := g1) (b := 0) tf27_0 rfl rfl) rfl rfl ?_
  rintro u aq8 wq8 hf haq8 hsq8
  obtain rfl := Eq.symm hf
  clear haq7 hsq7 aq7 wq7
  refine seq_op haq8 hsq8 rfl (opT_load_blk (g := g1) (off := 0) (E := 27) (l := [.int .i64 p0a.1, va0, va1]) (d := [.int .i64 p0a.1]) (u := .int .i64 p0a.1) ti3 rfl rfl rfl rfl rfl rfl) (perm_front (i := 2) rfl) rfl ?_
  rintro u aq9 wq9 hf haq9 (hsq9 : St I w0 wq9 [Ch.blk g1 [.int .i64 p0a.1, va0, va1] 27, Ch.blk g3 [v1] 22, Ch.own (rSlice 4 rBool) [v1] r1, Ch.blk g2 [.int .i64 0, .slice none 0 0, .slice none 0 0] 27, F])
  obtain rfl := Eq.symm hf
  clear haq8 hsq8 aq8 wq8
  obtain ⟨x1, e2, hm⟩ := bind_some hm
  refine seq_op0 haq9 hsq9 (opT_index_hd (xs := r1) (i := p0a.1) (n := 1) (St.hd hsq9 2 rfl).1 Try.underlying22 ti4 rfl rfl rfl (getI_in e2)) rfl rfl ?_
  rintro u aq10 wq10 hf haq10 hsq10
  obtain rfl := Eq.symm hf
  clear haq9 hsq9 aq9 wq9
  refine seq_op haq10 hsq10 rfl (opT_load_own (E := 4) (R := rBool) (S := rBool) (xs := r1) (a := x1) (i := p0a.1) (k := 1) (off := 0) (f := fun (x : Bool) => x) sh_bool e2 Fld.self ti4 rfl rfl rfl rfl rfl) (perm_front (i := 2) rfl) rfl ?_
  rintro u aq11 wq11 hf haq11 (hsq11 : St I w0 wq11 [Ch.own (rSlice 4 rBool) [v1] r1, Ch.blk g1 [.int .i64 p0a.1, va0, va1] 27, Ch.blk g3 [v1] 22, Ch.blk g2 [.int .i64 0, .slice none 0 0, .slice none 0 0] 27, F])
  obtain rfl := lds_one hf
  clear haq10 hsq10 aq10 wq10
  refine seq_op0 haq11 hsq11 (opT_not (b := x1) rfl rfl) rfl rfl ?_
  rintro u aq12 wq12 hf haq12 hsq12
  obtain rfl := Eq.symm hf
  clear haq11 hsq11 aq11 wq11
  refine wpList_nil ?_
  replace haq12 := haq12.pick' (L' := [(1, .pointer (some ⟨g1, 0, none⟩)), (2, .pointer (some ⟨g2, 0, none⟩)), (3, .pointer (some ⟨g3, 0, none⟩)), (13, .bool (!x1))]) ⟨rfl, rfl, rfl, rfl, trivial⟩
  refine nrm ?_
  rcases two (x1) with hb1 | hb1
  · replace hm := ifFe hb1 hm
    refine cnd_true (b := !x1) haq12 rfl rfl (notT hb1) ?_
    refine wp_seq ?_
    refine wp_region_lit ?_
    obtain ⟨r2, e3, hm⟩ := bind_some hm
    refine seq_op haq12 hsq12 rfl (opT_call (args := #[]) (first := #[]) (captured := #[]) en97 rfl rfl rfl (c_i_nothing  _ e3  )) (List.Perm.refl _) rfl ?_
    rintro u aq13 wq13 ⟨v2, v3, rfl⟩ haq13 (hsq13 : St I w0 wq13 [Ch.own (rSlice 4 rBool) [v2] r2.2.1, Ch.own (rSlice 34 (rSlice 3 rInt)) [v3] r2.2.2, Ch.own (rSlice 4 rBool) [v1] r1, Ch.blk g1 [.int .i64 p0a.1, va0, va1] 27, Ch.blk g3 [v1] 22, Ch.blk g2 [.int .i64 0, .slice none 0 0, .slice none 0 0] 27, F])
    clear haq12 hsq12 aq12 wq12
    refine seq_op haq13 hsq13 rfl (opT_store_blk (g := g2) (off := 0) (l := [.int .i64 0, .slice none 0 0, .slice none 0 0]) (d := [.int .i64 r2.1, v2, v3]) (E := 27) (u := .agg #[.int .i64 r2.1, v2, v3]) ti27 rfl rfl rfl rfl rfl (allC rfl (allC (Hd.one (St.hd hsq13 0 rfl).1) (allC (Hd.one (St.hd hsq13 1 rfl).1) allN))) (Nat.le_of_ble_eq_true rfl)) (perm_front (i := 5) rfl) rfl ?_
    rintro _ aq14 wq14 - haq14 (hsq14 : St I w0 wq14 [Ch.blk g2 [.int .i64 r2.1, v2, v3] 27, Ch.own (rSlice 4 rBool) [v2] r2.2.1, Ch.own (rSlice 34 (rSlice 3 rInt)) [v3] r2.2.2, Ch.own (rSlice 4 rBool) [v1] r1, Ch.blk g1 [.int .i64 p0a.1, va0, va1] 27, Ch.blk g3 [v1] 22, F])
    clear haq13 hsq13 aq13 wq13
    refine wpList_nil ?_
    replace haq14 := haq14.pick' (L' := [(2, .pointer (some ⟨g2, 0, none⟩))]) ⟨rfl, trivial⟩
    refine nrm ?_
    refine wp_ret ?_
    refine thenR ?_
    obtain rfl := Option.some.inj hm
    exact ret_1 haq14 rfl (res_cell (g := g2) haq14 rfl hsq14 0 rfl ti27 rfl) ⟨_, rfl, ⟨_, _, rfl⟩, _, Hp.le.rfl, St.sel (hsq14) 7 [1, 2, 6] rfl rfl⟩
  · replace hm := ifTe hb1 hm
    refine cnd_false (b := !x1) haq12 rfl rfl (notF hb1) ?_
    refine wp_skip ?_
    refine nrm ?_
    refine wp_seq ?_
    refine wp_region_lit ?_
    refine seq_op0 haq12 hsq12 (opT_field_addr (g := g1) (b := 0) tf27_0 rfl rfl) rfl rfl ?_
    rintro u aq15 wq15 hf haq15 hsq15
    obtain rfl := Eq.symm hf
    clear haq12 hsq12 aq12 wq12
    refine seq_op haq15 hsq15 rfl (opT_load_blk (g := g1) (off := 0) (E := 27) (l := [.int .i64 p0a.1, va0, va1]) (d := [.int .i64 p0a.1]) (u := .int .i64 p0a.1) ti3 rfl rfl rfl rfl rfl rfl) (perm_front (i := 1) rfl) rfl ?_
    rintro u aq16 wq16 hf haq16 (hsq16 : St I w0 wq16 [Ch.blk g1 [.int .i64 p0a.1, va0, va1] 27, Ch.own (rSlice 4 rBool) [v1] r1, Ch.blk g3 [v1] 22, Ch.blk g2 [.int .i64 0, .slice none 0 0, .slice none 0 0] 27, F])
    obtain rfl := Eq.symm hf
    clear haq15 hsq15 aq15 wq15
    refine seq_op0 haq16 hsq16 (opT_field_addr (g := g1) (b := 0) tf27_1 rfl rfl) rfl rfl ?_
    rintro u aq17 wq17 hf haq17 hsq17
    obtain rfl := Eq.symm hf
    clear haq16 hsq16 aq16 wq16
    refine seq_op haq17 hsq17 rfl (opT_load_blk (g := g1) (off := 1) (E := 27) (l := [.int .i64 p0a.1, va0, va1]) (d := [va0]) (u := va0) ti22 rfl rfl rfl rfl rfl rfl) (perm_front (i := 0) rfl) rfl ?_
    rintro u aq18 wq18 hf haq18 (hsq18 : St I w0 wq18 [Ch.blk g1 [.int .i64 p0a.1, va0, va1] 27, Ch.own (rSlice 4 rBool) [v1] r1, Ch.blk g3 [v1] 22, Ch.blk g2 [.int .i64 0, .slice none 0 0, .slice none 0 0] 27, F])
    obtain rfl := Eq.symm hf
    clear haq17 hsq17 aq17 wq17
    refine seq_op0 haq18 hsq18 (opT_len_hd (v := va0) (n := p0a.2.1.length) (Hd.of_rd ra0) Try.underlying22 rfl rfl) rfl rfl ?_
    rintro u aq19 wq19 hf haq19 hsq19
    obtain rfl := Eq.symm hf
    clear haq18 hsq18 aq18 wq18
    refine seq_op haq19 hsq19 rfl (opT_load_blk (g := g1) (off := 0) (E := 27) (l := [.int .i64 p0a.1, va0, va1]) (d := [.int .i64 p0a.1, va0, va1]) (u := .agg #[.int .i64 p0a.1, va0, va1]) ti27 rfl rfl rfl rfl rfl rfl) (perm_front (i := 0) rfl) rfl ?_
    rintro u aq20 wq20 hf haq20 (hsq20 : St I w0 wq20 [Ch.blk g1 [.int .i64 p0a.1, va0, va1] 27, Ch.own (rSlice 4 rBool) [v1] r1, Ch.blk g3 [v1] 22, Ch.blk g2 [.int .i64 0, .slice none 0 0, .slice none 0 0] 27, F])
    obtain rfl := Eq.symm hf
    clear haq19 hsq19 aq19 wq19
    refine seq_op0 haq20 hsq20 (opT_make_func (v := .func (.func 99) #[.agg #[.int .i64 p0a.1, va0, va1]] #[]) rfl rfl) rfl rfl ?_
    rintro u aq21 wq21 hf haq21 hsq21
    obtain rfl := Eq.symm hf
    clear haq20 hsq20 aq20 wq20
    refine seq_op0 haq21 hsq21 (opT_make_func (v := .func (.func 100) #[] #[.pointer (some ⟨g1, 0, none⟩), .pointer (some ⟨g3, 0, none⟩)]) rfl rfl) rfl rfl ?_
    rintro u aq22 wq22 hf haq22 hsq22
    obtain rfl := Eq.symm hf
    clear haq21 hsq21 aq21 wq21
    obtain ⟨r3, e4, hm⟩ := bind_some hm
    refine seq_op haq22 hsq22 rfl (OpT.lend (ls := [Ch.blk g1 [.int .i64 p0a.1, va0, va1] 27, Ch.blk g3 [v1] 22, Ch.own (rSlice 4 rBool) [v1] r1]) (gv := fun v => [Ch.own (rSlice 4 rBool) [vg v [0, 1]] r3.1.2.1, Ch.own (rSlice 34 (rSlice 3 rInt)) [vg v [0, 2]] r3.1.2.2]) (fun _ => ⟨dp_own (dp_slice dp_bool), dp_own (dp_slice (dp_slice dp_int)), trivial⟩) fun J hJ hl hb => opT_call (args := #[.int .i64 p0a.1, .int .i64 (p0a.2.1.length : Int), .func (.func 99) #[.agg #[.int .i64 p0a.1, va0, va1]] #[], .func (.func 100) #[] #[.pointer (some ⟨g1, 0, none⟩), .pointer (some ⟨g3, 0, none⟩)]]) (first := #[]) (captured := #[]) en98 rfl rfl rfl (c_i_numbered_int p0a.1 (p0a.2.1.length : Int) (fun a0 => m_i_Automaton_accepts (p0a.1, p0a.2.1, p0a.2.2) a0) (fun a0 a1 => m_i_Automaton_trim_1 a0 a1 (p0a.1, p0a.2.1, p0a.2.2) r1) _ e4 (.func (.func 99) #[.agg #[.int .i64 p0a.1, va0, va1]] #[]) (.func (.func 100) #[] #[.pointer (some ⟨g1, 0, none⟩), .pointer (some ⟨g3, 0, none⟩)]) ⟨isFn, fun J1 hJ1 b1_0 r hm   => ⟨99, #[.agg #[.int .i64 p0a.1, va0, va1]], #[], rfl, en99, c_i_Automaton_accepts (p0a.1, p0a.2.1, p0a.2.2) b1_0 _ hm va0 va1 (Rep.rd_mono _ (Rep.rd_mono _ ra0 hJ) hJ1) (Rep.rd_mono _ (Rep.rd_mono _ ra1 hJ) hJ1)⟩⟩ ⟨isFn, fun J2 hJ2 b2_0 b2_1 r hm   => ⟨100, #[], #[.pointer (some ⟨g1, 0, none⟩), .pointer (some ⟨g3, 0, none⟩)], rfl, en100, c_i_Automaton_trim_1 b2_0 b2_1 (p0a.1, p0a.2.1, p0a.2.2) r1 _ hm g1 va0 va1 g3 v1 (hJ2 _ _ (hb _ _ _ (List.Mem.head _))) (Rep.rd_mono _ (Rep.rd_mono _ ra0 hJ) hJ2) (Rep.rd_mono _ (Rep.rd_mono _ ra1 hJ) hJ2) (hJ2 _ _ (hb _ _ _ (List.Mem.tail _ (List.Mem.head _)))) (Rep.rd_mono _ (hl _ _ _ (List.Mem.tail _ (List.Mem.tail _ (List.Mem.head _)))) hJ2)⟩⟩)) (perm_sel [0, 2, 1, 3, 4] (m := 5) rfl rfl) rfl ?_
    rintro u aq23 wq23 ⟨v4, v5, rfl⟩ haq23 (hsq23 : St I w0 wq23 [Ch.own (rSlice 4 rBool) [v4] r3.1.2.1, Ch.own (rSlice 34 (rSlice 3 rInt)) [v5] r3.1.2.2, Ch.blk g1 [.int .i64 p0a.1, va0, va1] 27, Ch.blk g3 [v1] 22, Ch.own (rSlice 4 rBool) [v1] r1, Ch.blk g2 [.int .i64 0, .slice none 0 0, .slice none 0 0] 27, F])
    clear haq22 hsq22 aq22 wq22
    refine seq_op0 haq23 hsq23 (opT_move (v := .tuple #[.agg #[.int .i64 r3.1.1, v4, v5], .bool r3.2]) rfl rfl) rfl rfl ?_
    rintro u aq24 wq24 hf haq24 hsq24
    obtain rfl := Eq.symm hf
    clear haq23 hsq23 aq23 wq23
    refine seq_op0 haq24 hsq24 (opT_extract (vs := #[.agg #[.int .i64 r3.1.1, v4, v5], .bool r3.2]) (v := .agg #[.int .i64 r3.1.1, v4, v5]) rfl rfl rfl) rfl rfl ?_
    rintro u aq25 wq25 hf haq25 hsq25
    obtain rfl := Eq.symm hf
    clear haq24 hsq24 aq24 wq24
    refine seq_op0 haq25 hsq25 (opT_extract (vs := #[.agg #[.int .i64 r3.1.1, v4, v5], .bool r3.2]) (v := .bool r3.2) rfl rfl rfl) rfl rfl ?_
    rintro u aq26 wq26 hf haq26 hsq26
    obtain rfl := Eq.symm hf
    clear haq25 hsq25 aq25 wq25
    refine seq_op haq26 hsq26 rfl (opT_alloc (l := [.int .i64 0, .slice none 0 0, .slice none 0 0]) tz27 rfl rfl) (List.Perm.refl _) rfl ?_
    rintro _ aq27 wq27 ⟨g4, rfl⟩ haq27 (hsq27 : St I w0 wq27 [Ch.blk g4 [.int .i64 0, .slice none 0 0, .slice none 0 0] 27, Ch.own (rSlice 4 rBool) [v4] r3.1.2.1, Ch.own (rSlice 34 (rSlice 3 rInt)) [v5] r3.1.2.2, Ch.blk g1 [.int .i64 p0a.1, va0, va1] 27, Ch.blk g3 [v1] 22, Ch.own (rSlice 4 rBool) [v1] r1, Ch.blk g2 [.int .i64 0, .slice none 0 0, .slice none 0 0] 27, F])
    clear haq26 hsq26 aq26 wq26
    refine seq_op haq27 hsq27 rfl (opT_store_blk (g := g4) (off := 0) (l := [.int .i64 0, .slice none 0 0, .slice none 0 0]) (d := [.int .i64 r3.1.1, v4, v5]) (E := 27) (u := .agg #[.int .i64 r3.1.1, v4, v5]) ti27 rfl rfl rfl rfl rfl (allC rfl (allC (Hd.one (St.hd hsq27 1 rfl).1) (allC (Hd.one (St.hd hsq27 2 rfl).1) allN))) (Nat.le_of_ble_eq_true rfl)) (perm_front (i := 0) rfl) rfl ?_
    rintro _ aq28 wq28 - haq28 (hsq28 : St I w0 wq28 [Ch.blk g4 [.int .i64 r3.1.1, v4, v5] 27, Ch.own (rSlice 4 rBool) [v4] r3.1.2.1, Ch.own (rSlice 34 (rSlice 3 rInt)) [v5] r3.1.2.2, Ch.blk g1 [.int .i64 p0a.1, va0, va1] 27, Ch.blk g3 [v1] 22, Ch.own (rSlice 4 rBool) [v1] r1, Ch.blk g2 [.int .i64 0, .slice none 0 0, .slice none 0 0] 27, F])
    clear haq27 hsq27 aq27 wq27
    refine seq_op0 haq28 hsq28 (opT_assign (v := .bool r3.2) rfl rfl) rfl rfl ?_
    rintro u aq29 wq29 hf haq29 hsq29
    obtain rfl := Eq.symm hf
    clear haq28 hsq28 aq28 wq28
    refine wpList_nil ?_
    replace haq29 := haq29.pick' (L' := [(2, .pointer (some ⟨g2, 0, none⟩)), (4, .pointer (some ⟨g4, 0, none⟩))]) ⟨rfl, rfl, trivial⟩
    refine nrm ?_
    refine wp_seq ?_
    refine wp_region_lit ?_
    refine seq_op haq29 hsq29 rfl (opT_load_blk (g := g4) (off := 0) (E := 27) (l := [.int .i64 r3.1.1, v4, v5]) (d := [.int .i64 r3.1.1, v4, v5]) (u := .agg #[.int .i64 r3.1.1, v4, v5]) ti27 rfl rfl rfl rfl rfl rfl) (perm_front (i := 0) rfl) rfl ?_
    rintro u aq30 wq30 hf haq30 (hsq30 : St I w0 wq30 [Ch.blk g4 [.int .i64 r3.1.1, v4, v5] 27, Ch.own (rSlice 4 rBool) [v4] r3.1.2.1, Ch.own (rSlice 34 (rSlice 3 rInt)) [v5] r3.1.2.2, Ch.blk g1 [.int .i64 p0a.1, va0, va1] 27, Ch.blk g3 [v1] 22, Ch.own (rSlice 4 rBool) [v1] r1, Ch.blk g2 [.int .i64 0, .slice none 0 0, .slice none 0 0] 27, F])
    obtain rfl := Eq.symm hf
    clear haq29 hsq29 aq29 wq29
    refine seq_op haq30 hsq30 rfl (opT_store_blk (g := g2) (off := 0) (l := [.int .i64 0, .slice none 0 0, .slice none 0 0]) (d := [.int .i64 r3.1.1, v4, v5]) (E := 27) (u := .agg #[.int .i64 r3.1.1, v4, v5]) ti27 rfl rfl rfl rfl rfl (allC rfl (allC (Hd.one (St.hd hsq30 1 rfl).1) (allC (Hd.one (St.hd hsq30 2 rfl).1) allN))) (Nat.le_of_ble_eq_true rfl)) (perm_front (i := 6) rfl) rfl ?_
    rintro _ aq31 wq31 - haq31 (hsq31 : St I w0 wq31 [Ch.blk g2 [.int .i64 r3.1.1, v4, v5] 27, Ch.blk g4 [.int .i64 r3.1.1, v4, v5] 27, Ch.own (rSlice 4 rBool) [v4] r3.1.2.1, Ch.own (rSlice 34 (rSlice 3 rInt)) [v5] r3.1.2.2, Ch.blk g1 [.int .i64 p0a.1, va0, va1] 27, Ch.blk g3 [v1] 22, Ch.own (rSlice 4 rBool) [v1] r1, F])
    clear haq30 hsq30 aq30 wq30
    refine wpList_nil ?_
    replace haq31 := haq31.pick' (L' := [(2, .pointer (some ⟨g2, 0, none⟩))]) ⟨rfl, trivial⟩
    refine nrm ?_
    refine wp_ret ?_
    obtain rfl := Option.some.inj hm
    exact ret_1 haq31 rfl (res_cell (g := g2) haq31 rfl hsq31 0 rfl ti27 rfl) ⟨_, rfl, ⟨_, _, rfl⟩, _, Hp.le.rfl, St.sel (hsq31) 8 [2, 3, 7] rfl rfl⟩
end Go.Proofs.Ytcihbmdppgpmjaa.D
