/- Printed by dec.py: models of functions and the walks that show them. -/
import Derived.Test.YtcihbmdppgpmjaaUw0_0
import Derived.Test.YtcihbmdppgpmjaaUw0_2
import Derived.Test.YtcihbmdppgpmjaaUw1_3
import Derived.Test.YtcihbmdppgpmjaaUw3_0
import Derived.Test.YtcihbmdppgpmjaaUw3_1
import Derived.Test.YtcihbmdppgpmjaaUw3_3
set_option linter.unusedVariables false
set_option linter.unusedSimpArgs false
set_option linter.unnecessarySimpa false
set_option maxRecDepth 100000
namespace Go.Proofs.Ytcihbmdppgpmjaa.D
open Go.RowKit
set_option maxHeartbeats 8000000 in
theorem c_i_Automaton_minimize (p0a : Int × (List Bool) × (List (List Int))) (r : Int × (List Bool) × (List (List Int))) (hm : m_i_Automaton_minimize p0a = some r) {I : Hp} {w0 : World} (va0 : Value) (va1 : Value) (ra0 : (rSlice 4 rBool).rd I [va0] p0a.2.1) (ra1 : (rSlice 34 (rSlice 3 rInt)).rd I [va1] p0a.2.2) : Con Try.prog 62 #[.agg #[.int .i64 p0a.1, va0, va1]] I w0 [] (fun v => ∃ h0 h1 : Value, v = .agg #[.int .i64 r.1, h0, h1]) (fun v => [Ch.own (rSlice 4 rBool) [vg v [1]] r.2.1, Ch.own (rSlice 34 (rSlice 3 rInt)) [vg v [2]] r.2.2]) := by
  refine con_of_wp (n := 31) [(0, .agg #[.int .i64 p0a.1, va0, va1])] Try.func62 rfl rfl (Nat.le_of_ble_eq_true rfl) (args_all ⟨rfl, trivial⟩) (fun F w a ha hs => ?_) (fun v => ⟨dp_own (dp_slice dp_bool), dp_own (dp_slice (dp_slice dp_int)), trivial⟩)
  unfold m_i_Automaton_minimize at hm
  refine wp_seq ?_
  refine wp_region_lit ?_
  refine seq_op ha hs rfl (opT_box (u := .agg #[.int .i64 p0a.1, va0, va1]) (l := [.int .i64 p0a.1, va0, va1]) rfl rfl rfl) (List.Perm.refl _) rfl ?_
  rintro _ a1 w1 ⟨g1, rfl⟩ A1 (S1 : St I w0 w1 [Ch.blk g1 [.int .i64 p0a.1, va0, va1] 27, F])
  clear ha hs a w
  refine seq_op A1 S1 rfl (opT_alloc (l := [.int .i64 0, .slice none 0 0, .slice none 0 0]) tz27 rfl rfl) (List.Perm.refl _) rfl ?_
  rintro _ a2 w2 ⟨g2, rfl⟩ A2 (S2 : St I w0 w2 [Ch.blk g2 [.int .i64 0, .slice none 0 0, .slice none 0 0] 27, Ch.blk g1 [.int .i64 p0a.1, va0, va1] 27, F])
  clear A1 S1 a1 w1
  refine wpList_nil ?_
  replace A2 := A2.pick' (L' := [(1, .pointer (some ⟨g1, 0, none⟩)), (2, .pointer (some ⟨g2, 0, none⟩))]) ⟨rfl, rfl, trivial⟩
  refine nrm ?_
  refine wp_seq ?_
  refine wp_region_lit ?_
  refine seq_op A2 S2 rfl (opT_load_blk (g := g1) (off := 0) (E := 27) (l := [.int .i64 p0a.1, va0, va1]) (d := [.int .i64 p0a.1, va0, va1]) (u := .agg #[.int .i64 p0a.1, va0, va1]) ti27 rfl rfl rfl rfl rfl rfl) (perm_front (i := 1) rfl) rfl ?_
  rintro u a3 w3 hf A3 (S3 : St I w0 w3 [Ch.blk g1 [.int .i64 p0a.1, va0, va1] 27, Ch.blk g2 [.int .i64 0, .slice none 0 0, .slice none 0 0] 27, F])
  obtain rfl := Eq.symm hf
  clear A2 S2 a2 w2
  obtain ⟨r1, e1, hm⟩ := bind_some hm
  refine seq_op A3 S3 rfl (opT_call (args := #[.agg #[.int .i64 p0a.1, va0, va1]]) (first := #[]) (captured := #[]) en110 rfl rfl rfl (c_i_Automaton_classes (p0a.1, p0a.2.1, p0a.2.2) _ e1 va0 va1 ra0 ra1)) (List.Perm.refl _) rfl ?_
  rintro v1 a4 w4 - A4 (S4 : St I w0 w4 [Ch.own (rSlice 3 rInt) [v1] r1, Ch.blk g1 [.int .i64 p0a.1, va0, va1] 27, Ch.blk g2 [.int .i64 0, .slice none 0 0, .slice none 0 0] 27, F])
  clear A3 S3 a3 w3
  refine seq_op A4 S4 rfl (opT_alloc (l := [.slice none 0 0]) tz34 rfl rfl) (List.Perm.refl _) rfl ?_
  rintro _ a5 w5 ⟨g3, rfl⟩ A5 (S5 : St I w0 w5 [Ch.blk g3 [.slice none 0 0] 34, Ch.own (rSlice 3 rInt) [v1] r1, Ch.blk g1 [.int .i64 p0a.1, va0, va1] 27, Ch.blk g2 [.int .i64 0, .slice none 0 0, .slice none 0 0] 27, F])
  clear A4 S4 a4 w4
  refine seq_op A5 S5 rfl (opT_store_blk (g := g3) (off := 0) (l := [.slice none 0 0]) (d := [v1]) (E := 34) (u := v1) ti34 rfl rfl rfl (Hd.cells (St.hd S5 1 rfl).1) rfl (allC (Hd.one (St.hd S5 1 rfl).1) allN) (Nat.le_of_ble_eq_true rfl)) (perm_front (i := 0) rfl) rfl ?_
  rintro _ a6 w6 - A6 (S6 : St I w0 w6 [Ch.blk g3 [v1] 34, Ch.own (rSlice 3 rInt) [v1] r1, Ch.blk g1 [.int .i64 p0a.1, va0, va1] 27, Ch.blk g2 [.int .i64 0, .slice none 0 0, .slice none 0 0] 27, F])
  clear A5 S5 a5 w5
  refine wpList_nil ?_
  replace A6 := A6.pick' (L' := [(1, .pointer (some ⟨g1, 0, none⟩)), (2, .pointer (some ⟨g2, 0, none⟩)), (3, .pointer (some ⟨g3, 0, none⟩))]) ⟨rfl, rfl, rfl, trivial⟩
  refine nrm ?_
  refine wp_seq ?_
  refine wp_seq ?_
  refine wp_region_lit ?_
  refine seq_op A6 S6 rfl (opT_load_blk (g := g3) (off := 0) (E := 34) (l := [v1]) (d := [v1]) (u := v1) ti34 rfl rfl rfl rfl rfl rfl) (perm_front (i := 0) rfl) rfl ?_
  rintro u a7 w7 hf A7 (S7 : St I w0 w7 [Ch.blk g3 [v1] 34, Ch.own (rSlice 3 rInt) [v1] r1, Ch.blk g1 [.int .i64 p0a.1, va0, va1] 27, Ch.blk g2 [.int .i64 0, .slice none 0 0, .slice none 0 0] 27, F])
  obtain rfl := Eq.symm hf
  clear A6 S6 a6 w6
  refine sv A7 S7 (opT_field_addr (g := g1) (b := 0) tf27_0 rfl rfl) rfl rfl ?_
  clear A7 S7 a7 w7;intro a8 w8 A8 S8
  refine seq_op A8 S8 rfl (opT_load_blk (g := g1) (off := 0) (E := 27) (l := [.int .i64 p0a.1, va0, va1]) (d := [.int .i64 p0a.1]) (u := .int .i64 p0a.1) ti3 rfl rfl rfl rfl rfl rfl) (perm_front (i := 2) rfl) rfl ?_
  rintro u a9 w9 hf A9 (S9 : St I w0 w9 [Ch.blk g1 [.int .i64 p0a.1, va0, va1] 27, Ch.blk g3 [v1] 34, Ch.own (rSlice 3 rInt) [v1] r1, Ch.blk g2 [.int .i64 0, .slice none 0 0, .slice none 0 0] 27, F])
  obtain rfl := Eq.symm hf
  clear A8 S8 a8 w8
  obtain ⟨x1, e2, hm⟩ := bind_some hm
  refine sv A9 S9 (opT_index_hd (xs := r1) (i := p0a.1) (n := 1) (St.hd S9 2 rfl).1 Try.underlying34 ti3 rfl rfl rfl (getI_in e2)) rfl rfl ?_
  clear A9 S9 a9 w9;intro a10 w10 A10 S10
  refine seq_op A10 S10 rfl (opT_load_own (E := 3) (R := rInt) (S := rInt) (xs := r1) (a := x1) (i := p0a.1) (k := 1) (off := 0) (f := fun (x : Int) => x) sh_int e2 Fld.self ti3 rfl rfl rfl rfl rfl) (perm_front (i := 2) rfl) rfl ?_
  rintro u a11 w11 hf A11 (S11 : St I w0 w11 [Ch.own (rSlice 3 rInt) [v1] r1, Ch.blk g1 [.int .i64 p0a.1, va0, va1] 27, Ch.blk g3 [v1] 34, Ch.blk g2 [.int .i64 0, .slice none 0 0, .slice none 0 0] 27, F])
  obtain rfl := lds_one hf
  clear A10 S10 a10 w10
  refine sv A11 S11 (opT_cmp (k := .i64) (m := x1) (n := 0) (c := decide (x1 < 0)) rfl rfl rfl rfl rfl) rfl rfl ?_
  clear A11 S11 a11 w11;intro a12 w12 A12 S12
  refine wpList_nil ?_
  replace A12 := A12.pick' (L' := [(1, .pointer (some ⟨g1, 0, none⟩)), (2, .pointer (some ⟨g2, 0, none⟩)), (3, .pointer (some ⟨g3, 0, none⟩)), (14, .bool (decide (x1 < 0)))]) ⟨rfl, rfl, rfl, rfl, trivial⟩
  refine nrm ?_
  rcases two (decide (x1 < 0)) with hb1 | hb1
  · replace hm := ifFe hb1 hm
    refine cnd_false (b := decide (x1 < 0)) A12 rfl rfl hb1 ?_
    refine wp_skip ?_
    refine nrm ?_
    refine wp_seq ?_
    refine wp_region_lit ?_
    refine sv A12 S12 (opT_make_func (v := .func (.func 111) #[] #[.pointer (some ⟨g3, 0, none⟩)]) rfl rfl) rfl rfl ?_
    clear A12 S12 a12 w12;intro a13 w13 A13 S13
    refine seq_op A13 S13 rfl (opT_alloc (l := [.nilFunc]) tz122 rfl rfl) (List.Perm.refl _) rfl ?_
    rintro _ a14 w14 ⟨g4, rfl⟩ A14 (S14 : St I w0 w14 [Ch.blk g4 [.nilFunc] 122, Ch.own (rSlice 3 rInt) [v1] r1, Ch.blk g1 [.int .i64 p0a.1, va0, va1] 27, Ch.blk g3 [v1] 34, Ch.blk g2 [.int .i64 0, .slice none 0 0, .slice none 0 0] 27, F])
    clear A13 S13 a13 w13
    refine seq_op A14 S14 rfl (opT_store_blk (g := g4) (off := 0) (l := [.nilFunc]) (d := [.func (.func 111) #[] #[.pointer (some ⟨g3, 0, none⟩)]]) (E := 122) (u := .func (.func 111) #[] #[.pointer (some ⟨g3, 0, none⟩)]) ti122 rfl rfl rfl rfl rfl (allC rfl allN) (Nat.le_of_ble_eq_true rfl)) (perm_front (i := 0) rfl) rfl ?_
    rintro _ a15 w15 - A15 (S15 : St I w0 w15 [Ch.blk g4 [.func (.func 111) #[] #[.pointer (some ⟨g3, 0, none⟩)]] 122, Ch.own (rSlice 3 rInt) [v1] r1, Ch.blk g1 [.int .i64 p0a.1, va0, va1] 27, Ch.blk g3 [v1] 34, Ch.blk g2 [.int .i64 0, .slice none 0 0, .slice none 0 0] 27, F])
    clear A14 S14 a14 w14
    refine wpList_nil ?_
    replace A15 := A15.pick' (L' := [(1, .pointer (some ⟨g1, 0, none⟩)), (2, .pointer (some ⟨g2, 0, none⟩)), (3, .pointer (some ⟨g3, 0, none⟩)), (4, .pointer (some ⟨g4, 0, none⟩))]) ⟨rfl, rfl, rfl, rfl, trivial⟩
    refine nrm ?_
    refine wp_seq ?_
    obtain ⟨x2, e3, hm⟩ := bind_some hm
    have hd1 := (St.hd S15 1 rfl).1
    obtain ⟨r2, e4, hm⟩ := bind_some hm
    refine wp_draw (L := [(1, .pointer (some ⟨g1, 0, none⟩)), (2, .pointer (some ⟨g2, 0, none⟩)), (3, .pointer (some ⟨g3, 0, none⟩)), (4, .pointer (some ⟨g4, 0, none⟩))]) (C := [Ch.blk g2 [.int .i64 0, .slice none 0 0, .slice none 0 0] 27, F]) { ops := [⟨[0], [], [], [0], fun | [xo0] => xo0 = v1 | _ => True, [(3, none)]⟩, ⟨[], [], [], [1], fun | [xo1] => xo1 = .pointer (some ⟨g1, 0, none⟩) | _ => True, [(1, none)]⟩, ⟨[1], [], [], [2], fun | [xo2] => xo2 = .int .i64 p0a.1 | _ => True, [(19, some 1)]⟩, ⟨[], [], [], [3], fun | [xo3] => xo3 = pt v1 (p0a.1.toNat * 1) | _ => True, [(18, some 0), (20, some 2)]⟩, ⟨[2], [], [], [4], fun | [xo4] => xo4 = .int .i64 x2 | _ => True, [(21, some 3)]⟩, ⟨[0], [], [], [5], fun | [xo5] => xo5 = v1 | _ => True, [(3, none)]⟩, ⟨[], [], [], [6], fun | [xo6] => xo6 = .int .i64 (r1.length : Int) | _ => True, [(23, some 5)]⟩, ⟨[], [], [], [7], fun | [xo7] => xo7 = .func (.func 113) #[] #[.pointer (some ⟨g1, 0, none⟩), .pointer (some ⟨g4, 0, none⟩)] | _ => True, [(1, none), (4, none)]⟩, ⟨[], [], [], [8], fun | [xo8] => xo8 = .func (.func 114) #[] #[.pointer (some ⟨g1, 0, none⟩), .pointer (some ⟨g4, 0, none⟩), .pointer (some ⟨g3, 0, none⟩)] | _ => True, [(1, none), (4, none), (3, none)]⟩, ⟨[1, 3, 0, 2], [], [4, 5], [9], fun | [xo9] => xo9 = .tuple #[.agg #[.int .i64 r2.1.1, (vg xo9 [0, 1]), (vg xo9 [0, 2])], .bool r2.2] ∧ Hd (vg xo9 [0, 1]) (r2.1.2.1).length ∧ Hd (vg xo9 [0, 2]) (r2.1.2.2).length | _ => True, [(22, some 4), (24, some 6), (25, some 7), (26, some 8)]⟩, ⟨[], [], [], [10, 9], fun | [xo10, xo9] => xo10 = .tuple #[.agg #[.int .i64 r2.1.1, (vg xo9 [0, 1]), (vg xo9 [0, 2])], .bool r2.2] | _ => True, [(27, some 9)]⟩, ⟨[], [], [], [11, 9], fun | [xo11, xo9] => xo11 = .agg #[.int .i64 r2.1.1, (vg xo9 [0, 1]), (vg xo9 [0, 2])] | _ => True, [(17, some 10)]⟩, ⟨[], [], [], [12], fun | [xo12] => xo12 = .bool r2.2 | _ => True, [(17, some 10)]⟩, ⟨[], [], [6], [13], fun | [xo13] => xo13 = .pointer (some ⟨bk xo13, 0, none⟩) | _ => True, []⟩, ⟨[], [6], [7], [14], fun | [xo14] => True | _ => True, [(5, some 13), (28, some 11)]⟩, ⟨[], [], [], [15], fun | [xo15] => xo15 = .bool r2.2 | _ => True, [(29, some 12)]⟩], res := [⟨[], fun _ => Ch.blk g3 [v1] 34⟩, ⟨[], fun _ => Ch.blk g1 [.int .i64 p0a.1, va0, va1] 27⟩, ⟨[], fun _ => Ch.own (rSlice 3 rInt) [v1] r1⟩, ⟨[], fun _ => Ch.blk g4 [.func (.func 111) #[] #[.pointer (some ⟨g3, 0, none⟩)]] 122⟩, ⟨[9], fun | [xo9] => Ch.own (rSlice 4 rBool) [(vg xo9 [0, 1])] r2.1.2.1 | _ => Ch.fr (fun _ => none) []⟩, ⟨[9], fun | [xo9] => Ch.own (rSlice 34 (rSlice 3 rInt)) [(vg xo9 [0, 2])] r2.1.2.2 | _ => Ch.fr (fun _ => none) []⟩, ⟨[13], fun | [xo13] => Ch.blk (bk xo13) [.int .i64 0, .slice none 0 0, .slice none 0 0] 27 | _ => Ch.fr (fun _ => none) []⟩, ⟨[9, 13], fun | [xo9, xo13] => Ch.blk (bk xo13) [.int .i64 r2.1.1, (vg xo9 [0, 1]), (vg xo9 [0, 2])] 27 | _ => Ch.fr (fun _ => none) []⟩], base := [0, 1, 2, 3], pre := [[], [], [1], [0, 1, 2], [0, 1, 2, 3], [], [5], [], [], [0, 1, 2, 3, 4, 5, 6, 7, 8], [0, 1, 2, 3, 4, 5, 6, 7, 8, 9], [0, 1, 2, 3, 4, 5, 6, 7, 8, 9, 10], [0, 1, 2, 3, 4, 5, 6, 7, 8, 9, 10], [], [0, 1, 2, 3, 4, 5, 6, 7, 8, 9, 10, 11, 13], [0, 1, 2, 3, 4, 5, 6, 7, 8, 9, 10, 11, 12, 13, 14]], fin := [(2, none), (5, some 13)], left := [0, 1, 2, 3, 4, 5, 7] } (by kernel_rfl) A15 S15 (perm_sel [3, 2, 1, 0, 4, 5] (m := 6) rfl rfl) (by kernel_rfl) (by kernel_rfl) ?_ ?_
    · exact ⟨Plan.goal_run fun vs hf => ⟨wants_none rfl, OpT.conv (OpT.evs (ev' := evL [(3, .pointer (some ⟨g3, 0, none⟩))]) (opT_load_blk (g := g3) (off := 0) (E := 34) (l := [v1]) (d := [v1]) (u := v1) ti34 rfl rfl rfl rfl rfl rfl) rfl [.tmp 3] rfl ⟨rfl, trivial⟩) rfl (fun _ h => Eq.trans h rfl) (fun _ => rfl)⟩, Plan.goal_run fun vs hf => ⟨wants_none rfl, OpT.conv (OpT.evs (ev' := evL [(1, .pointer (some ⟨g1, 0, none⟩))]) (opT_field_addr (g := g1) (b := 0) tf27_0 rfl rfl) rfl [.tmp 1] rfl ⟨rfl, trivial⟩) rfl (fun _ h => Eq.trans h rfl) (fun _ => rfl)⟩, Plan.goal_run fun vs hf => ⟨wants_none rfl, OpT.conv (OpT.evs (ev' := evL [(19, .pointer (some ⟨g1, 0, none⟩))]) (opT_load_blk (g := g1) (off := 0) (E := 27) (l := [.int .i64 p0a.1, va0, va1]) (d := [.int .i64 p0a.1]) (u := .int .i64 p0a.1) ti3 rfl rfl rfl rfl rfl rfl) rfl [.tmp 19] rfl ⟨(hf 1 (mb rfl)), trivial⟩) rfl (fun _ h => Eq.trans h rfl) (fun _ => rfl)⟩, Plan.goal_run fun vs hf => ⟨wants_none rfl, OpT.conv (OpT.evs (ev' := evL [(18, v1), (20, .int .i64 p0a.1)]) (opT_index_hd (xs := r1) (i := p0a.1) (n := 1) hd1 Try.underlying34 ti3 rfl rfl rfl (getI_in e3)) rfl [.tmp 18, .tmp 20] rfl ⟨(hf 0 (mb rfl)), (hf 2 (mb rfl)), trivial⟩) rfl (fun _ h => Eq.trans h rfl) (fun _ => rfl)⟩, Plan.goal_run fun vs hf => ⟨wants_none rfl, OpT.conv (OpT.evs (ev' := evL [(21, pt v1 (p0a.1.toNat * 1))]) (opT_load_own (E := 3) (R := rInt) (S := rInt) (xs := r1) (a := x2) (i := p0a.1) (k := 1) (off := 0) (f := fun (x : Int) => x) sh_int e3 Fld.self ti3 rfl rfl rfl rfl rfl) rfl [.tmp 21] rfl ⟨(hf 3 (mb rfl)), trivial⟩) rfl (fun _ h => lds_one h) (fun _ => rfl)⟩, Plan.goal_run fun vs hf => ⟨wants_none rfl, OpT.conv (OpT.evs (ev' := evL [(3, .pointer (some ⟨g3, 0, none⟩))]) (opT_load_blk (g := g3) (off := 0) (E := 34) (l := [v1]) (d := [v1]) (u := v1) ti34 rfl rfl rfl rfl rfl rfl) rfl [.tmp 3] rfl ⟨rfl, trivial⟩) rfl (fun _ h => Eq.trans h rfl) (fun _ => rfl)⟩, Plan.goal_run fun vs hf => ⟨wants_none rfl, OpT.conv (OpT.evs (ev' := evL [(23, v1)]) (opT_len_hd (v := v1) (n := r1.length) hd1 Try.underlying34 rfl rfl) rfl [.tmp 23] rfl ⟨(hf 5 (mb rfl)), trivial⟩) rfl (fun _ h => Eq.trans h rfl) (fun _ => rfl)⟩, Plan.goal_run fun vs hf => ⟨wants_none rfl, OpT.conv (OpT.evs (ev' := evL [(1, .pointer (some ⟨g1, 0, none⟩)), (4, .pointer (some ⟨g4, 0, none⟩))]) (opT_make_func (v := .func (.func 113) #[] #[.pointer (some ⟨g1, 0, none⟩), .pointer (some ⟨g4, 0, none⟩)]) rfl rfl) rfl [.tmp 1, .tmp 4] rfl ⟨rfl, rfl, trivial⟩) rfl (fun _ h => Eq.trans h rfl) (fun _ => rfl)⟩, Plan.goal_run fun vs hf => ⟨wants_none rfl, OpT.conv (OpT.evs (ev' := evL [(1, .pointer (some ⟨g1, 0, none⟩)), (4, .pointer (some ⟨g4, 0, none⟩)), (3, .pointer (some ⟨g3, 0, none⟩))]) (opT_make_func (v := .func (.func 114) #[] #[.pointer (some ⟨g1, 0, none⟩), .pointer (some ⟨g4, 0, none⟩), .pointer (some ⟨g3, 0, none⟩)]) rfl rfl) rfl [.tmp 1, .tmp 4, .tmp 3] rfl ⟨rfl, rfl, rfl, trivial⟩) rfl (fun _ h => Eq.trans h rfl) (fun _ => rfl)⟩, Plan.goal_run fun vs hf => ⟨wants_none rfl, OpT.conv (OpT.evs (ev' := evL [(22, .int .i64 x2), (24, .int .i64 (r1.length : Int)), (25, .func (.func 113) #[] #[.pointer (some ⟨g1, 0, none⟩), .pointer (some ⟨g4, 0, none⟩)]), (26, .func (.func 114) #[] #[.pointer (some ⟨g1, 0, none⟩), .pointer (some ⟨g4, 0, none⟩), .pointer (some ⟨g3, 0, none⟩)])]) (OpT.comm (OpT.hdk (E := 4) (R := rBool) (xs := r2.1.2.1) (fun v => vg v [0, 1]) 0 (fun _ => rfl) (OpT.hdk (E := 34) (R := rSlice 3 rInt) (xs := r2.1.2.2) (fun v => vg v [0, 2]) 1 (fun _ => rfl) (OpT.lend (ls := [Ch.blk g1 [.int .i64 p0a.1, va0, va1] 27, Ch.blk g4 [.func (.func 111) #[] #[.pointer (some ⟨g3, 0, none⟩)]] 122, Ch.blk g3 [v1] 34, Ch.own (rSlice 3 rInt) [v1] r1]) (gv := fun v => [Ch.own (rSlice 4 rBool) [vg v [0, 1]] r2.1.2.1, Ch.own (rSlice 34 (rSlice 3 rInt)) [vg v [0, 2]] r2.1.2.2]) (fun _ => ⟨dp_own (dp_slice dp_bool), dp_own (dp_slice (dp_slice dp_int)), trivial⟩) fun J hJ hl hb => opT_call (args := #[.int .i64 x2, .int .i64 (r1.length : Int), .func (.func 113) #[] #[.pointer (some ⟨g1, 0, none⟩), .pointer (some ⟨g4, 0, none⟩)], .func (.func 114) #[] #[.pointer (some ⟨g1, 0, none⟩), .pointer (some ⟨g4, 0, none⟩), .pointer (some ⟨g3, 0, none⟩)]]) (first := #[]) (captured := #[]) en98 rfl rfl rfl (c_i_numbered_int x2 (r1.length : Int) (fun a0 => m_i_Automaton_minimize_2 a0 (p0a.1, p0a.2.1, p0a.2.2) (fun a0 => m_i_Automaton_minimize_1 a0 r1)) (fun a0 a1 => m_i_Automaton_minimize_3 a0 a1 (p0a.1, p0a.2.1, p0a.2.2) (fun a0 => m_i_Automaton_minimize_1 a0 r1) r1) _ e4 (.func (.func 113) #[] #[.pointer (some ⟨g1, 0, none⟩), .pointer (some ⟨g4, 0, none⟩)]) (.func (.func 114) #[] #[.pointer (some ⟨g1, 0, none⟩), .pointer (some ⟨g4, 0, none⟩), .pointer (some ⟨g3, 0, none⟩)]) ⟨isFn, fun J1 hJ1 b1_0 r hm   => ⟨113, #[], #[.pointer (some ⟨g1, 0, none⟩), .pointer (some ⟨g4, 0, none⟩)], rfl, en113, c_i_Automaton_minimize_2 b1_0 (p0a.1, p0a.2.1, p0a.2.2) (fun a0 => m_i_Automaton_minimize_1 a0 r1) _ hm g1 va0 va1 g4 (.func (.func 111) #[] #[.pointer (some ⟨g3, 0, none⟩)]) (hJ1 _ _ (hb _ _ _ (List.Mem.head _))) (Rep.rd_mono _ (Rep.rd_mono _ ra0 hJ) hJ1) (Rep.rd_mono _ (Rep.rd_mono _ ra1 hJ) hJ1) (hJ1 _ _ (hb _ _ _ (List.Mem.tail _ (List.Mem.head _)))) ⟨isFn, fun J2 hJ2 b2_0 r hm   => ⟨111, #[], #[.pointer (some ⟨g3, 0, none⟩)], rfl, en111, c_i_Automaton_minimize_1 b2_0 r1 _ hm g3 v1 (hJ2 _ _ (hJ1 _ _ (hb _ _ _ (List.Mem.tail _ (List.Mem.tail _ (List.Mem.head _)))))) (Rep.rd_mono _ (Rep.rd_mono _ (hl _ _ _ (List.Mem.tail _ (List.Mem.tail _ (List.Mem.tail _ (List.Mem.head _))))) hJ1) hJ2)⟩⟩⟩⟩ ⟨isFn, fun J3 hJ3 b3_0 b3_1 r hm   => ⟨114, #[], #[.pointer (some ⟨g1, 0, none⟩), .pointer (some ⟨g4, 0, none⟩), .pointer (some ⟨g3, 0, none⟩)], rfl, en114, c_i_Automaton_minimize_3 b3_0 b3_1 (p0a.1, p0a.2.1, p0a.2.2) (fun a0 => m_i_Automaton_minimize_1 a0 r1) r1 _ hm g1 va0 va1 g4 (.func (.func 111) #[] #[.pointer (some ⟨g3, 0, none⟩)]) g3 v1 (hJ3 _ _ (hb _ _ _ (List.Mem.head _))) (Rep.rd_mono _ (Rep.rd_mono _ ra0 hJ) hJ3) (Rep.rd_mono _ (Rep.rd_mono _ ra1 hJ) hJ3) (hJ3 _ _ (hb _ _ _ (List.Mem.tail _ (List.Mem.head _)))) ⟨isFn, fun J4 hJ4 b4_0 r hm   => ⟨111, #[], #[.pointer (some ⟨g3, 0, none⟩)], rfl, en111, c_i_Automaton_minimize_1 b4_0 r1 _ hm g3 v1 (hJ4 _ _ (hJ3 _ _ (hb _ _ _ (List.Mem.tail _ (List.Mem.tail _ (List.Mem.head _)))))) (Rep.rd_mono _ (Rep.rd_mono _ (hl _ _ _ (List.Mem.tail _ (List.Mem.tail _ (List.Mem.tail _ (List.Mem.head _))))) hJ3) hJ4)⟩⟩ (hJ3 _ _ (hb _ _ _ (List.Mem.tail _ (List.Mem.tail _ (List.Mem.head _))))) (Rep.rd_mono _ (hl _ _ _ (List.Mem.tail _ (List.Mem.tail _ (List.Mem.tail _ (List.Mem.head _))))) hJ3)⟩⟩))))) rfl [.func 98, .tmp 22, .tmp 24, .tmp 25, .tmp 26] rfl ⟨rfl, (hf 4 (mb rfl)), (hf 6 (mb rfl)), (hf 7 (mb rfl)), (hf 8 (mb rfl)), trivial⟩) rfl (fun _ h => by obtain ⟨⟨h, k1⟩, k0⟩ := h; obtain ⟨_, _, rfl⟩ := h; exact ⟨rfl, k0, k1⟩) (fun _ => rfl)⟩, Plan.goal_run fun vs hf => ⟨wants_none rfl, OpT.conv (OpT.evs (ev' := evL [(27, .tuple #[.agg #[.int .i64 r2.1.1, (vg (vs 9) [0, 1]), (vg (vs 9) [0, 2])], .bool r2.2])]) (opT_move (v := .tuple #[.agg #[.int .i64 r2.1.1, (vg (vs 9) [0, 1]), (vg (vs 9) [0, 2])], .bool r2.2]) rfl rfl) rfl [.tmp 27] rfl ⟨(hf 9 (mb rfl)).1, trivial⟩) rfl (fun _ h => Eq.trans h rfl) (fun _ => rfl)⟩, Plan.goal_run fun vs hf => ⟨wants_none rfl, OpT.conv (OpT.evs (ev' := evL [(17, .tuple #[.agg #[.int .i64 r2.1.1, (vg (vs 9) [0, 1]), (vg (vs 9) [0, 2])], .bool r2.2])]) (opT_extract (vs := #[.agg #[.int .i64 r2.1.1, (vg (vs 9) [0, 1]), (vg (vs 9) [0, 2])], .bool r2.2]) (v := .agg #[.int .i64 r2.1.1, (vg (vs 9) [0, 1]), (vg (vs 9) [0, 2])]) rfl rfl rfl) rfl [.tmp 17] rfl ⟨(hf 10 (mb rfl)), trivial⟩) rfl (fun _ h => Eq.trans h rfl) (fun _ => rfl)⟩, Plan.goal_run fun vs hf => ⟨wants_none rfl, OpT.conv (OpT.evs (ev' := evL [(17, .tuple #[.agg #[.int .i64 r2.1.1, (vg (vs 9) [0, 1]), (vg (vs 9) [0, 2])], .bool r2.2])]) (opT_extract (vs := #[.agg #[.int .i64 r2.1.1, (vg (vs 9) [0, 1]), (vg (vs 9) [0, 2])], .bool r2.2]) (v := .bool r2.2) rfl rfl rfl) rfl [.tmp 17] rfl ⟨(hf 10 (mb rfl)), trivial⟩) rfl (fun _ h => Eq.trans h rfl) (fun _ => rfl)⟩, Plan.goal_run fun vs hf => ⟨wants_none rfl, OpT.conv (OpT.evs (ev' := evL []) (opT_alloc (l := [.int .i64 0, .slice none 0 0, .slice none 0 0]) tz27 rfl rfl) rfl [] rfl trivial) rfl (fun _ h => isPt_bk h) (fun _ => rfl)⟩, Plan.goal_run fun vs hf => ⟨wants_none rfl, OpT.conv (OpT.evs (ev' := evL [(5, .pointer (some ⟨(bk (vs 13)), 0, none⟩)), (28, .agg #[.int .i64 r2.1.1, (vg (vs 9) [0, 1]), (vg (vs 9) [0, 2])])]) (opT_store_blk (g := (bk (vs 13))) (off := 0) (l := [.int .i64 0, .slice none 0 0, .slice none 0 0]) (d := [.int .i64 r2.1.1, (vg (vs 9) [0, 1]), (vg (vs 9) [0, 2])]) (E := 27) (u := .agg #[.int .i64 r2.1.1, (vg (vs 9) [0, 1]), (vg (vs 9) [0, 2])]) ti27 rfl rfl rfl rfl rfl (allC rfl (allC (Hd.one (show Hd (vg (vs 9) [0, 1]) (r2.1.2.1).length from (hf 9 (mb rfl)).2.1)) (allC (Hd.one (show Hd (vg (vs 9) [0, 2]) (r2.1.2.2).length from (hf 9 (mb rfl)).2.2)) allN))) (Nat.le_of_ble_eq_true rfl)) rfl [.tmp 5, .tmp 28] rfl ⟨(hf 13 (mb rfl)), (hf 11 (mb rfl)), trivial⟩) rfl (fun _ _ => trivial) (fun _ => rfl)⟩, Plan.goal_run fun vs hf => ⟨wants_none rfl, OpT.conv (OpT.evs (ev' := evL [(29, .bool r2.2)]) (opT_assign (v := .bool r2.2) rfl rfl) rfl [.tmp 29] rfl ⟨(hf 12 (mb rfl)), trivial⟩) rfl (fun _ h => Eq.trans h rfl) (fun _ => rfl)⟩, trivial⟩
    intro vs a16 w16 hf A16 S16
    clear A15 S15
    replace A16 := A16.pick' (L' := [(2, .pointer (some ⟨g2, 0, none⟩)), (5, .pointer (some ⟨(bk (vs 13)), 0, none⟩))]) ⟨rfl, (congrArg some (show _ = _ from (hf 13 (Nat.le_of_ble_eq_true rfl)))), trivial⟩
    replace S16 : St I w0 w16 [Ch.blk g3 [v1] 34, Ch.blk g1 [.int .i64 p0a.1, va0, va1] 27, Ch.own (rSlice 3 rInt) [v1] r1, Ch.blk g4 [.func (.func 111) #[] #[.pointer (some ⟨g3, 0, none⟩)]] 122, Ch.own (rSlice 4 rBool) [(vg (vs 9) [0, 1])] r2.1.2.1, Ch.own (rSlice 34 (rSlice 3 rInt)) [(vg (vs 9) [0, 2])] r2.1.2.2, Ch.blk (bk (vs 13)) [.int .i64 r2.1.1, (vg (vs 9) [0, 1]), (vg (vs 9) [0, 2])] 27, Ch.blk g2 [.int .i64 0, .slice none 0 0, .slice none 0 0] 27, F] := S16
    obtain ⟨v2, ea1⟩ : ∃ x, x = (vg (vs 9) [0, 1]) := ⟨_, rfl⟩
    try rw [← ea1] at A16
    try rw [← ea1] at S16
    clear ea1
    obtain ⟨v3, ea2⟩ : ∃ x, x = (vg (vs 9) [0, 2]) := ⟨_, rfl⟩
    try rw [← ea2] at A16
    try rw [← ea2] at S16
    clear ea2
    obtain ⟨g5, ea3⟩ : ∃ x, x = (bk (vs 13)) := ⟨_, rfl⟩
    try rw [← ea3] at A16
    try rw [← ea3] at S16
    clear ea3
    clear hf vs
    refine nrm ?_
    refine wp_seq ?_
    refine wp_region_lit ?_
    refine seq_op A16 S16 rfl (opT_load_blk (g := g5) (off := 0) (E := 27) (l := [.int .i64 r2.1.1, v2, v3]) (d := [.int .i64 r2.1.1, v2, v3]) (u := .agg #[.int .i64 r2.1.1, v2, v3]) ti27 rfl rfl rfl rfl rfl rfl) (perm_front (i := 6) rfl) rfl ?_
    rintro u a17 w17 hf A17 (S17 : St I w0 w17 [Ch.blk g5 [.int .i64 r2.1.1, v2, v3] 27, Ch.blk g3 [v1] 34, Ch.blk g1 [.int .i64 p0a.1, va0, va1] 27, Ch.own (rSlice 3 rInt) [v1] r1, Ch.blk g4 [.func (.func 111) #[] #[.pointer (some ⟨g3, 0, none⟩)]] 122, Ch.own (rSlice 4 rBool) [v2] r2.1.2.1, Ch.own (rSlice 34 (rSlice 3 rInt)) [v3] r2.1.2.2, Ch.blk g2 [.int .i64 0, .slice none 0 0, .slice none 0 0] 27, F])
    obtain rfl := Eq.symm hf
    clear A16 S16 a16 w16
    refine seq_op A17 S17 rfl (opT_store_blk (g := g2) (off := 0) (l := [.int .i64 0, .slice none 0 0, .slice none 0 0]) (d := [.int .i64 r2.1.1, v2, v3]) (E := 27) (u := .agg #[.int .i64 r2.1.1, v2, v3]) ti27 rfl rfl rfl rfl rfl (allC rfl (allC (Hd.one (St.hd S17 5 rfl).1) (allC (Hd.one (St.hd S17 6 rfl).1) allN))) (Nat.le_of_ble_eq_true rfl)) (perm_front (i := 7) rfl) rfl ?_
    rintro _ a18 w18 - A18 (S18 : St I w0 w18 [Ch.blk g2 [.int .i64 r2.1.1, v2, v3] 27, Ch.blk g5 [.int .i64 r2.1.1, v2, v3] 27, Ch.blk g3 [v1] 34, Ch.blk g1 [.int .i64 p0a.1, va0, va1] 27, Ch.own (rSlice 3 rInt) [v1] r1, Ch.blk g4 [.func (.func 111) #[] #[.pointer (some ⟨g3, 0, none⟩)]] 122, Ch.own (rSlice 4 rBool) [v2] r2.1.2.1, Ch.own (rSlice 34 (rSlice 3 rInt)) [v3] r2.1.2.2, F])
    clear A17 S17 a17 w17
    refine wpList_nil ?_
    replace A18 := A18.pick' (L' := [(2, .pointer (some ⟨g2, 0, none⟩))]) ⟨rfl, trivial⟩
    refine nrm ?_
    refine wp_ret ?_
    obtain rfl := Option.some.inj hm
    exact ret_1 A18 rfl (res_cell (g := g2) A18 rfl S18 0 rfl ti27 rfl) ⟨_, rfl, ⟨_, _, rfl⟩, _, Hp.le.rfl, St.sel (S18) 9 [6, 7, 8] rfl rfl⟩
  · replace hm := ifTe hb1 hm
    refine cnd_true (b := decide (x1 < 0)) A12 rfl rfl hb1 ?_
    refine wp_seq ?_
    refine wp_region_lit ?_
    obtain ⟨r3, e5, hm⟩ := bind_some hm
    refine seq_op A12 S12 rfl (opT_call (args := #[]) (first := #[]) (captured := #[]) en97 rfl rfl rfl (c_i_nothing  _ e5  )) (List.Perm.refl _) rfl ?_
    rintro u a19 w19 ⟨v4, v5, rfl⟩ A19 (S19 : St I w0 w19 [Ch.own (rSlice 4 rBool) [v4] r3.2.1, Ch.own (rSlice 34 (rSlice 3 rInt)) [v5] r3.2.2, Ch.own (rSlice 3 rInt) [v1] r1, Ch.blk g1 [.int .i64 p0a.1, va0, va1] 27, Ch.blk g3 [v1] 34, Ch.blk g2 [.int .i64 0, .slice none 0 0, .slice none 0 0] 27, F])
    clear A12 S12 a12 w12
    refine seq_op A19 S19 rfl (opT_store_blk (g := g2) (off := 0) (l := [.int .i64 0, .slice none 0 0, .slice none 0 0]) (d := [.int .i64 r3.1, v4, v5]) (E := 27) (u := .agg #[.int .i64 r3.1, v4, v5]) ti27 rfl rfl rfl rfl rfl (allC rfl (allC (Hd.one (St.hd S19 0 rfl).1) (allC (Hd.one (St.hd S19 1 rfl).1) allN))) (Nat.le_of_ble_eq_true rfl)) (perm_front (i := 5) rfl) rfl ?_
    rintro _ a20 w20 - A20 (S20 : St I w0 w20 [Ch.blk g2 [.int .i64 r3.1, v4, v5] 27, Ch.own (rSlice 4 rBool) [v4] r3.2.1, Ch.own (rSlice 34 (rSlice 3 rInt)) [v5] r3.2.2, Ch.own (rSlice 3 rInt) [v1] r1, Ch.blk g1 [.int .i64 p0a.1, va0, va1] 27, Ch.blk g3 [v1] 34, F])
    clear A19 S19 a19 w19
    refine wpList_nil ?_
    replace A20 := A20.pick' (L' := [(2, .pointer (some ⟨g2, 0, none⟩))]) ⟨rfl, trivial⟩
    refine nrm ?_
    refine wp_ret ?_
    refine thenR ?_
    obtain rfl := Option.some.inj hm
    exact ret_1 A20 rfl (res_cell (g := g2) A20 rfl S20 0 rfl ti27 rfl) ⟨_, rfl, ⟨_, _, rfl⟩, _, Hp.le.rfl, St.sel (S20) 7 [1, 2, 6] rfl rfl⟩
end Go.Proofs.Ytcihbmdppgpmjaa.D
