/- Printed by dec.py: models of functions and the walks that show them. -/
import Derived.Test.YtcihbmdppgpmjaaEw3_0
import Derived.Test.YtcihbmdppgpmjaaEw4_0
import Derived.Test.YtcihbmdppgpmjaaEw5_0
import Derived.Test.YtcihbmdppgpmjaaEw6_0
import Derived.Test.YtcihbmdppgpmjaaEw6_1
set_option linter.unusedVariables false
set_option linter.unusedSimpArgs false
set_option linter.unnecessarySimpa false
set_option maxRecDepth 100000
namespace Go.Proofs.Ytcihbmdppgpmjaa.D
open Go.RowKit
set_option maxHeartbeats 8000000 in
theorem c_w_FnExactEqualEngines (p0aA : (Int × (List ((List Int) × (List (Int × Int × Int × Int))))) × ((List (Int × (List Bool) × (List (List Int)))) × (List (Int × ((List (Int × Int × Int × Int))) × Int))) × (List (Int × Int × Int)) × ByteArray) (p1aB : (Int × (List ((List Int) × (List (Int × Int × Int × Int))))) × ((List (Int × (List Bool) × (List (List Int)))) × (List (Int × ((List (Int × Int × Int × Int))) × Int))) × (List (Int × Int × Int)) × ByteArray) (r : Bool) (hm : m_w_FnExactEqualEngines p0aA p1aB = some r) {I : Hp} {w0 : World} (va0 : Value) (va1 : Value) (va2 : Value) (va3 : Value) (va4 : Value) (va5 : Value) (va6 : Value) (va7 : Value) (ra0 : (rSlice 37 (rProd (rSlice 3 rInt) (rSlice 128 (rProd rInt (rProd rInt (rProd rInt rInt)))))).rd I [va0] p0aA.1.2) (ra1 : (rSlice 25 (rProd rInt (rProd (rSlice 4 rBool) (rSlice 34 (rSlice 3 rInt))))).rd I [va1] p0aA.2.1.1) (ra2 : (rSlice 195 (rProd rInt (rProd (rSlice 222 (rProd rInt (rProd rInt (rProd rInt rInt)))) rInt))).rd I [va2] p0aA.2.1.2) (ra3 : (rSlice 153 (rProd rInt (rProd rInt rInt))).rd I [va3] p0aA.2.2.1) (ra4 : (rSlice 37 (rProd (rSlice 3 rInt) (rSlice 128 (rProd rInt (rProd rInt (rProd rInt rInt)))))).rd I [va4] p1aB.1.2) (ra5 : (rSlice 25 (rProd rInt (rProd (rSlice 4 rBool) (rSlice 34 (rSlice 3 rInt))))).rd I [va5] p1aB.2.1.1) (ra6 : (rSlice 195 (rProd rInt (rProd (rSlice 222 (rProd rInt (rProd rInt (rProd rInt rInt)))) rInt))).rd I [va6] p1aB.2.1.2) (ra7 : (rSlice 153 (rProd rInt (rProd rInt rInt))).rd I [va7] p1aB.2.2.1) : Con Try.prog 11 #[.agg #[.int .i64 p0aA.1.1, va0, va1, va2, va3, .string p0aA.2.2.2], .agg #[.int .i64 p1aB.1.1, va4, va5, va6, va7, .string p1aB.2.2.2]] I w0 [] (fun v => v = .bool r) (fun v => []) := by
  refine con_of_wp (n := 45) [(0, .agg #[.int .i64 p0aA.1.1, va0, va1, va2, va3, .string p0aA.2.2.2]), (1, .agg #[.int .i64 p1aB.1.1, va4, va5, va6, va7, .string p1aB.2.2.2])] Try.func11 rfl rfl (Nat.le_of_ble_eq_true rfl) (args_all ⟨rfl, rfl, trivial⟩) (fun F w a ha hs => ?_) (fun v => trivial)
  unfold m_w_FnExactEqualEngines at hm
  refine wp_seq ?_
  refine wp_region_lit ?_
  refine seq_op ha hs rfl (opT_box (u := .agg #[.int .i64 p0aA.1.1, va0, va1, va2, va3, .string p0aA.2.2.2]) (l := [.int .i64 p0aA.1.1, va0, va1, va2, va3, .string p0aA.2.2.2]) rfl rfl rfl) (List.Perm.refl _) rfl ?_
  rintro _ aq1 wq1 ⟨g1, rfl⟩ haq1 (hsq1 : St I w0 wq1 [Ch.blk g1 [.int .i64 p0aA.1.1, va0, va1, va2, va3, .string p0aA.2.2.2] 66, F])
  clear ha hs a w
  refine seq_op haq1 hsq1 rfl (opT_box (u := .agg #[.int .i64 p1aB.1.1, va4, va5, va6, va7, .string p1aB.2.2.2]) (l := [.int .i64 p1aB.1.1, va4, va5, va6, va7, .string p1aB.2.2.2]) rfl rfl rfl) (List.Perm.refl _) rfl ?_
  rintro _ aq2 wq2 ⟨g2, rfl⟩ haq2 (hsq2 : St I w0 wq2 [Ch.blk g2 [.int .i64 p1aB.1.1, va4, va5, va6, va7, .string p1aB.2.2.2] 66, Ch.blk g1 [.int .i64 p0aA.1.1, va0, va1, va2, va3, .string p0aA.2.2.2] 66, F])
  clear haq1 hsq1 aq1 wq1
  refine seq_op0 haq2 hsq2 (opT_assign (v := .bool false) rfl rfl) rfl rfl ?_
  rintro u aq3 wq3 hf haq3 hsq3
  obtain rfl := Eq.symm hf
  clear haq2 hsq2 aq2 wq2
  refine wpList_nil ?_
  replace haq3 := haq3.pick' (L' := [(2, .pointer (some ⟨g1, 0, none⟩)), (3, .pointer (some ⟨g2, 0, none⟩))]) ⟨rfl, rfl, trivial⟩
  refine nrm ?_
  refine wp_seq ?_
  refine wp_region_lit ?_
  refine seq_op0 haq3 hsq3 (opT_assign (v := .int .i64 1048576) rfl rfl) rfl rfl ?_
  rintro u aq4 wq4 hf haq4 hsq4
  obtain rfl := Eq.symm hf
  clear haq3 hsq3 aq3 wq3
  refine wpList_nil ?_
  replace haq4 := haq4.pick' (L' := [(2, .pointer (some ⟨g1, 0, none⟩)), (3, .pointer (some ⟨g2, 0, none⟩)), (5, .int .i64 1048576)]) ⟨rfl, rfl, rfl, trivial⟩
  refine nrm ?_
  refine wp_seq ?_
  refine wp_region_lit ?_
  refine seq_op haq4 hsq4 rfl (opT_load_blk (g := g1) (off := 0) (E := 66) (l := [.int .i64 p0aA.1.1, va0, va1, va2, va3, .string p0aA.2.2.2]) (d := [.int .i64 p0aA.1.1, va0, va1, va2, va3, .string p0aA.2.2.2]) (u := .agg #[.int .i64 p0aA.1.1, va0, va1, va2, va3, .string p0aA.2.2.2]) ti66 rfl rfl rfl rfl rfl rfl) (perm_front (i := 1) rfl) rfl ?_
  rintro u aq5 wq5 hf haq5 (hsq5 : St I w0 wq5 [Ch.blk g1 [.int .i64 p0aA.1.1, va0, va1, va2, va3, .string p0aA.2.2.2] 66, Ch.blk g2 [.int .i64 p1aB.1.1, va4, va5, va6, va7, .string p1aB.2.2.2] 66, F])
  obtain rfl := Eq.symm hf
  clear haq4 hsq4 aq4 wq4
  refine seq_op0 haq5 hsq5 (opT_move (v := .int .i64 1048576) rfl rfl) rfl rfl ?_
  rintro u aq6 wq6 hf haq6 hsq6
  obtain rfl := Eq.symm hf
  clear haq5 hsq5 aq5 wq5
  obtain ⟨r1, e1, hm⟩ := bind_some hm
  refine seq_op0 haq6 hsq6 (opT_call (args := #[.agg #[.int .i64 p0aA.1.1, va0, va1, va2, va3, .string p0aA.2.2.2], .int .i64 1048576]) (first := #[]) (captured := #[]) en39 rfl rfl rfl (c_w_szEngine ((p0aA.1.1, p0aA.1.2), (p0aA.2.1.1, p0aA.2.1.2), p0aA.2.2.1, p0aA.2.2.2) 1048576 _ e1 va0 va1 va2 va3 ra0 ra1 ra2 ra3)) rfl rfl ?_
  rintro u aq7 wq7 hf haq7 hsq7
  obtain rfl := Eq.symm hf
  clear haq6 hsq6 aq6 wq6
  refine seq_op0 haq7 hsq7 (opT_assign (v := .int .i64 r1) rfl rfl) rfl rfl ?_
  rintro u aq8 wq8 hf haq8 hsq8
  obtain rfl := Eq.symm hf
  clear haq7 hsq7 aq7 wq7
  refine wpList_nil ?_
  replace haq8 := haq8.pick' (L' := [(2, .pointer (some ⟨g1, 0, none⟩)), (3, .pointer (some ⟨g2, 0, none⟩)), (5, .int .i64 r1)]) ⟨rfl, rfl, rfl, trivial⟩
  refine nrm ?_
  refine wp_seq ?_
  refine wp_seq ?_
  refine wp_region_lit ?_
  refine seq_op0 haq8 hsq8 (opT_move (v := .int .i64 r1) rfl rfl) rfl rfl ?_
  rintro u aq9 wq9 hf haq9 hsq9
  obtain rfl := Eq.symm hf
  clear haq8 hsq8 aq8 wq8
  refine seq_op0 haq9 hsq9 (opT_cmp (k := .i64) (m := r1) (n := 0) (c := decide (r1 < 0)) rfl rfl rfl rfl rfl) rfl rfl ?_
  rintro u aq10 wq10 hf haq10 hsq10
  obtain rfl := Eq.symm hf
  clear haq9 hsq9 aq9 wq9
  refine wpList_nil ?_
  replace haq10 := haq10.pick' (L' := [(2, .pointer (some ⟨g1, 0, none⟩)), (3, .pointer (some ⟨g2, 0, none⟩)), (5, .int .i64 r1), (14, .bool (decide (r1 < 0)))]) ⟨rfl, rfl, rfl, rfl, trivial⟩
  refine nrm ?_
  rcases two (decide (r1 < 0)) with hb1 | hb1
  · replace hm := ifFe hb1 hm
    refine cnd_false (b := decide (r1 < 0)) haq10 rfl rfl hb1 ?_
    refine wp_skip ?_
    refine nrm ?_
    refine wp_seq ?_
    refine wp_region_lit ?_
    refine seq_op haq10 hsq10 rfl (opT_load_blk (g := g2) (off := 0) (E := 66) (l := [.int .i64 p1aB.1.1, va4, va5, va6, va7, .string p1aB.2.2.2]) (d := [.int .i64 p1aB.1.1, va4, va5, va6, va7, .string p1aB.2.2.2]) (u := .agg #[.int .i64 p1aB.1.1, va4, va5, va6, va7, .string p1aB.2.2.2]) ti66 rfl rfl rfl rfl rfl rfl) (perm_front (i := 1) rfl) rfl ?_
    rintro u aq11 wq11 hf haq11 (hsq11 : St I w0 wq11 [Ch.blk g2 [.int .i64 p1aB.1.1, va4, va5, va6, va7, .string p1aB.2.2.2] 66, Ch.blk g1 [.int .i64 p0aA.1.1, va0, va1, va2, va3, .string p0aA.2.2.2] 66, F])
    obtain rfl := Eq.symm hf
    clear haq10 hsq10 aq10 wq10
    refine seq_op0 haq11 hsq11 (opT_move (v := .int .i64 r1) rfl rfl) rfl rfl ?_
    rintro u aq12 wq12 hf haq12 hsq12
    obtain rfl := Eq.symm hf
    clear haq11 hsq11 aq11 wq11
    obtain ⟨r2, e2, hm⟩ := bind_some hm
    refine seq_op0 haq12 hsq12 (opT_call (args := #[.agg #[.int .i64 p1aB.1.1, va4, va5, va6, va7, .string p1aB.2.2.2], .int .i64 r1]) (first := #[]) (captured := #[]) en39 rfl rfl rfl (c_w_szEngine ((p1aB.1.1, p1aB.1.2), (p1aB.2.1.1, p1aB.2.1.2), p1aB.2.2.1, p1aB.2.2.2) r1 _ e2 va4 va5 va6 va7 ra4 ra5 ra6 ra7)) rfl rfl ?_
    rintro u aq13 wq13 hf haq13 hsq13
    obtain rfl := Eq.symm hf
    clear haq12 hsq12 aq12 wq12
    refine seq_op0 haq13 hsq13 (opT_assign (v := .int .i64 r2) rfl rfl) rfl rfl ?_
    rintro u aq14 wq14 hf haq14 hsq14
    obtain rfl := Eq.symm hf
    clear haq13 hsq13 aq13 wq13
    refine wpList_nil ?_
    replace haq14 := haq14.pick' (L' := [(2, .pointer (some ⟨g1, 0, none⟩)), (3, .pointer (some ⟨g2, 0, none⟩)), (5, .int .i64 r2)]) ⟨rfl, rfl, rfl, trivial⟩
    refine nrm ?_
    refine wp_seq ?_
    refine wp_seq ?_
    refine wp_region_lit ?_
    refine seq_op0 haq14 hsq14 (opT_move (v := .int .i64 r2) rfl rfl) rfl rfl ?_
    rintro u aq15 wq15 hf haq15 hsq15
    obtain rfl := Eq.symm hf
    clear haq14 hsq14 aq14 wq14
    refine seq_op0 haq15 hsq15 (opT_cmp (k := .i64) (m := r2) (n := 0) (c := decide (r2 < 0)) rfl rfl rfl rfl rfl) rfl rfl ?_
    rintro u aq16 wq16 hf haq16 hsq16
    obtain rfl := Eq.symm hf
    clear haq15 hsq15 aq15 wq15
    refine wpList_nil ?_
    replace haq16 := haq16.pick' (L' := [(2, .pointer (some ⟨g1, 0, none⟩)), (3, .pointer (some ⟨g2, 0, none⟩)), (19, .bool (decide (r2 < 0)))]) ⟨rfl, rfl, rfl, trivial⟩
    refine nrm ?_
    rcases two (decide (r2 < 0)) with hb2 | hb2
    · replace hm := ifFe hb2 hm
      refine cnd_false (b := decide (r2 < 0)) haq16 rfl rfl hb2 ?_
      refine wp_skip ?_
      refine nrm ?_
      refine wp_seq ?_
      obtain ⟨r3, e3, hm⟩ := bind_some hm
      obtain ⟨r4, e4, hm⟩ := bind_some hm
      obtain ⟨r5, e5, hm⟩ := bind_some hm
      refine wp_draw (L := [(2, .pointer (some ⟨g1, 0, none⟩)), (3, .pointer (some ⟨g2, 0, none⟩)), (19, .bool (decide (r2 < 0)))]) (C := [F]) { ops := [⟨[0], [], [], [0], fun | [xo0] => xo0 = .agg #[.int .i64 p0aA.1.1, va0, va1, va2, va3, .string p0aA.2.2.2] | _ => True, [(2, none)]⟩, ⟨[], [], [2, 3, 4, 5], [1], fun | [xo1] => xo1 = .agg #[.int .i64 r3.1.1, (vg xo1 [1]), (vg xo1 [2]), (vg xo1 [3]), (vg xo1 [4]), .string r3.2.2.2] ∧ Hd (vg xo1 [1]) (r3.1.2).length ∧ Hd (vg xo1 [2]) (r3.2.1.1).length ∧ Hd (vg xo1 [3]) (r3.2.1.2).length ∧ Hd (vg xo1 [4]) (r3.2.2.1).length | _ => True, [(20, some 0)]⟩, ⟨[1], [], [], [2], fun | [xo2] => xo2 = .agg #[.int .i64 p1aB.1.1, va4, va5, va6, va7, .string p1aB.2.2.2] | _ => True, [(3, none)]⟩, ⟨[], [], [6, 7, 8, 9], [3], fun | [xo3] => xo3 = .agg #[.int .i64 r4.1.1, (vg xo3 [1]), (vg xo3 [2]), (vg xo3 [3]), (vg xo3 [4]), .string r4.2.2.2] ∧ Hd (vg xo3 [1]) (r4.1.2).length ∧ Hd (vg xo3 [2]) (r4.2.1.1).length ∧ Hd (vg xo3 [3]) (r4.2.1.2).length ∧ Hd (vg xo3 [4]) (r4.2.2.1).length | _ => True, [(22, some 2)]⟩, ⟨[2, 3, 4, 5, 6, 7, 8, 9], [], [], [4], fun | [xo4] => xo4 = .bool r5 | _ => True, [(21, some 1), (23, some 3)]⟩, ⟨[], [], [], [5], fun | [xo5] => xo5 = .bool r5 | _ => True, [(24, some 4)]⟩], res := [⟨[], fun _ => Ch.blk g1 [.int .i64 p0aA.1.1, va0, va1, va2, va3, .string p0aA.2.2.2] 66⟩, ⟨[], fun _ => Ch.blk g2 [.int .i64 p1aB.1.1, va4, va5, va6, va7, .string p1aB.2.2.2] 66⟩, ⟨[1], fun | [xo1] => Ch.own (rSlice 45 (rProd (rSlice 3 rInt) (rSlice 126 (rProd rInt (rProd rInt (rProd rInt rInt)))))) [(vg xo1 [1])] r3.1.2 | _ => Ch.fr (fun _ => none) []⟩, ⟨[1], fun | [xo1] => Ch.own (rSlice 27 (rProd rInt (rProd (rSlice 4 rBool) (rSlice 34 (rSlice 3 rInt))))) [(vg xo1 [2])] r3.2.1.1 | _ => Ch.fr (fun _ => none) []⟩, ⟨[1], fun | [xo1] => Ch.own (rSlice 147 (rProd rInt (rProd (rSlice 197 (rProd rInt (rProd rInt (rProd rInt rInt)))) rInt))) [(vg xo1 [3])] r3.2.1.2 | _ => Ch.fr (fun _ => none) []⟩, ⟨[1], fun | [xo1] => Ch.own (rSlice 107 (rProd rInt (rProd rInt rInt))) [(vg xo1 [4])] r3.2.2.1 | _ => Ch.fr (fun _ => none) []⟩, ⟨[3], fun | [xo3] => Ch.own (rSlice 45 (rProd (rSlice 3 rInt) (rSlice 126 (rProd rInt (rProd rInt (rProd rInt rInt)))))) [(vg xo3 [1])] r4.1.2 | _ => Ch.fr (fun _ => none) []⟩, ⟨[3], fun | [xo3] => Ch.own (rSlice 27 (rProd rInt (rProd (rSlice 4 rBool) (rSlice 34 (rSlice 3 rInt))))) [(vg xo3 [2])] r4.2.1.1 | _ => Ch.fr (fun _ => none) []⟩, ⟨[3], fun | [xo3] => Ch.own (rSlice 147 (rProd rInt (rProd (rSlice 197 (rProd rInt (rProd rInt (rProd rInt rInt)))) rInt))) [(vg xo3 [3])] r4.2.1.2 | _ => Ch.fr (fun _ => none) []⟩, ⟨[3], fun | [xo3] => Ch.own (rSlice 107 (rProd rInt (rProd rInt rInt))) [(vg xo3 [4])] r4.2.2.1 | _ => Ch.fr (fun _ => none) []⟩], base := [0, 1], pre := [[], [0], [], [0, 1, 2], [0, 1, 2, 3], [0, 1, 2, 3, 4]], fin := [(2, none), (3, none), (6, some 5)], left := [0, 1, 2, 3, 4, 5, 6, 7, 8, 9] } (by kernel_rfl) haq16 hsq16 (perm_sel [1, 0, 2] (m := 3) rfl rfl) (by kernel_rfl) (by kernel_rfl) ?_ ?_
      · exact ⟨Plan.goal_run fun vs hf => ⟨wants_none rfl, OpT.conv (OpT.evs (ev' := evL [(2, .pointer (some ⟨g1, 0, none⟩))]) (opT_load_blk (g := g1) (off := 0) (E := 66) (l := [.int .i64 p0aA.1.1, va0, va1, va2, va3, .string p0aA.2.2.2]) (d := [.int .i64 p0aA.1.1, va0, va1, va2, va3, .string p0aA.2.2.2]) (u := .agg #[.int .i64 p0aA.1.1, va0, va1, va2, va3, .string p0aA.2.2.2]) ti66 rfl rfl rfl rfl rfl rfl) rfl [.tmp 2] rfl ⟨rfl, trivial⟩) rfl (fun _ h => Eq.trans h rfl) (fun _ => rfl)⟩, Plan.goal_run fun vs hf => ⟨wants_none rfl, OpT.conv (OpT.evs (ev' := evL [(20, .agg #[.int .i64 p0aA.1.1, va0, va1, va2, va3, .string p0aA.2.2.2])]) (OpT.hdk (E := 45) (R := rProd (rSlice 3 rInt) (rSlice 126 (rProd rInt (rProd rInt (rProd rInt rInt))))) (xs := r3.1.2) (fun v => vg v [1]) 0 (fun _ => rfl) (OpT.hdk (E := 27) (R := rProd rInt (rProd (rSlice 4 rBool) (rSlice 34 (rSlice 3 rInt)))) (xs := r3.2.1.1) (fun v => vg v [2]) 1 (fun _ => rfl) (OpT.hdk (E := 147) (R := rProd rInt (rProd (rSlice 197 (rProd rInt (rProd rInt (rProd rInt rInt)))) rInt)) (xs := r3.2.1.2) (fun v => vg v [3]) 2 (fun _ => rfl) (OpT.hdk (E := 107) (R := rProd rInt (rProd rInt rInt)) (xs := r3.2.2.1) (fun v => vg v [4]) 3 (fun _ => rfl) (opT_call (args := #[.agg #[.int .i64 p0aA.1.1, va0, va1, va2, va3, .string p0aA.2.2.2]]) (first := #[]) (captured := #[]) en41 rfl rfl rfl (c_w_toEngine ((p0aA.1.1, p0aA.1.2), (p0aA.2.1.1, p0aA.2.1.2), p0aA.2.2.1, p0aA.2.2.2) _ e3 va0 va1 va2 va3 ra0 ra1 ra2 ra3)))))) rfl [.func 41, .tmp 20] rfl ⟨rfl, (hf 0 (mb rfl)), trivial⟩) rfl (fun _ h => by obtain ⟨⟨⟨⟨h, k3⟩, k2⟩, k1⟩, k0⟩ := h; obtain ⟨_, _, _, _, rfl⟩ := h; exact ⟨rfl, k0, k1, k2, k3⟩) (fun _ => rfl)⟩, Plan.goal_run fun vs hf => ⟨wants_none rfl, OpT.conv (OpT.evs (ev' := evL [(3, .pointer (some ⟨g2, 0, none⟩))]) (opT_load_blk (g := g2) (off := 0) (E := 66) (l := [.int .i64 p1aB.1.1, va4, va5, va6, va7, .string p1aB.2.2.2]) (d := [.int .i64 p1aB.1.1, va4, va5, va6, va7, .string p1aB.2.2.2]) (u := .agg #[.int .i64 p1aB.1.1, va4, va5, va6, va7, .string p1aB.2.2.2]) ti66 rfl rfl rfl rfl rfl rfl) rfl [.tmp 3] rfl ⟨rfl, trivial⟩) rfl (fun _ h => Eq.trans h rfl) (fun _ => rfl)⟩, Plan.goal_run fun vs hf => ⟨wants_none rfl, OpT.conv (OpT.evs (ev' := evL [(22, .agg #[.int .i64 p1aB.1.1, va4, va5, va6, va7, .string p1aB.2.2.2])]) (OpT.hdk (E := 45) (R := rProd (rSlice 3 rInt) (rSlice 126 (rProd rInt (rProd rInt (rProd rInt rInt))))) (xs := r4.1.2) (fun v => vg v [1]) 0 (fun _ => rfl) (OpT.hdk (E := 27) (R := rProd rInt (rProd (rSlice 4 rBool) (rSlice 34 (rSlice 3 rInt)))) (xs := r4.2.1.1) (fun v => vg v [2]) 1 (fun _ => rfl) (OpT.hdk (E := 147) (R := rProd rInt (rProd (rSlice 197 (rProd rInt (rProd rInt (rProd rInt rInt)))) rInt)) (xs := r4.2.1.2) (fun v => vg v [3]) 2 (fun _ => rfl) (OpT.hdk (E := 107) (R := rProd rInt (rProd rInt rInt)) (xs := r4.2.2.1) (fun v => vg v [4]) 3 (fun _ => rfl) (opT_call (args := #[.agg #[.int .i64 p1aB.1.1, va4, va5, va6, va7, .string p1aB.2.2.2]]) (first := #[]) (captured := #[]) en41 rfl rfl rfl (c_w_toEngine ((p1aB.1.1, p1aB.1.2), (p1aB.2.1.1, p1aB.2.1.2), p1aB.2.2.1, p1aB.2.2.2) _ e4 va4 va5 va6 va7 ra4 ra5 ra6 ra7)))))) rfl [.func 41, .tmp 22] rfl ⟨rfl, (hf 2 (mb rfl)), trivial⟩) rfl (fun _ h => by obtain ⟨⟨⟨⟨h, k3⟩, k2⟩, k1⟩, k0⟩ := h; obtain ⟨_, _, _, _, rfl⟩ := h; exact ⟨rfl, k0, k1, k2, k3⟩) (fun _ => rfl)⟩, Plan.goal_run fun vs hf => ⟨wants_none rfl, OpT.conv (OpT.evs (ev' := evL [(21, .agg #[.int .i64 r3.1.1, (vg (vs 1) [1]), (vg (vs 1) [2]), (vg (vs 1) [3]), (vg (vs 1) [4]), .string r3.2.2.2]), (23, .agg #[.int .i64 r4.1.1, (vg (vs 3) [1]), (vg (vs 3) [2]), (vg (vs 3) [3]), (vg (vs 3) [4]), .string r4.2.2.2])]) (OpT.lend (ls := [Ch.own (rSlice 45 (rProd (rSlice 3 rInt) (rSlice 126 (rProd rInt (rProd rInt (rProd rInt rInt)))))) [(vg (vs 1) [1])] r3.1.2, Ch.own (rSlice 27 (rProd rInt (rProd (rSlice 4 rBool) (rSlice 34 (rSlice 3 rInt))))) [(vg (vs 1) [2])] r3.2.1.1, Ch.own (rSlice 147 (rProd rInt (rProd (rSlice 197 (rProd rInt (rProd rInt (rProd rInt rInt)))) rInt))) [(vg (vs 1) [3])] r3.2.1.2, Ch.own (rSlice 107 (rProd rInt (rProd rInt rInt))) [(vg (vs 1) [4])] r3.2.2.1, Ch.own (rSlice 45 (rProd (rSlice 3 rInt) (rSlice 126 (rProd rInt (rProd rInt (rProd rInt rInt)))))) [(vg (vs 3) [1])] r4.1.2, Ch.own (rSlice 27 (rProd rInt (rProd (rSlice 4 rBool) (rSlice 34 (rSlice 3 rInt))))) [(vg (vs 3) [2])] r4.2.1.1, Ch.own (rSlice 147 (rProd rInt (rProd (rSlice 197 (rProd rInt (rProd rInt (rProd rInt rInt)))) rInt))) [(vg (vs 3) [3])] r4.2.1.2, Ch.own (rSlice 107 (rProd rInt (rProd rInt rInt))) [(vg (vs 3) [4])] r4.2.2.1]) (gv := fun v => []) (fun _ => trivial) fun J hJ hl hb => opT_call (args := #[.agg #[.int .i64 r3.1.1, (vg (vs 1) [1]), (vg (vs 1) [2]), (vg (vs 1) [3]), (vg (vs 1) [4]), .string r3.2.2.2], .agg #[.int .i64 r4.1.1, (vg (vs 3) [1]), (vg (vs 3) [2]), (vg (vs 3) [3]), (vg (vs 3) [4]), .string r4.2.2.2]]) (first := #[]) (captured := #[]) en40 rfl rfl rfl (c_s_EqualEngines ((r3.1.1, r3.1.2), (r3.2.1.1, r3.2.1.2), r3.2.2.1, r3.2.2.2) ((r4.1.1, r4.1.2), (r4.2.1.1, r4.2.1.2), r4.2.2.1, r4.2.2.2) _ e5 (vg (vs 1) [1]) (vg (vs 1) [2]) (vg (vs 1) [3]) (vg (vs 1) [4]) (vg (vs 3) [1]) (vg (vs 3) [2]) (vg (vs 3) [3]) (vg (vs 3) [4]) (hl _ _ _ (List.Mem.head _)) (hl _ _ _ (List.Mem.tail _ (List.Mem.head _))) (hl _ _ _ (List.Mem.tail _ (List.Mem.tail _ (List.Mem.head _)))) (hl _ _ _ (List.Mem.tail _ (List.Mem.tail _ (List.Mem.tail _ (List.Mem.head _))))) (hl _ _ _ (List.Mem.tail _ (List.Mem.tail _ (List.Mem.tail _ (List.Mem.tail _ (List.Mem.head _)))))) (hl _ _ _ (List.Mem.tail _ (List.Mem.tail _ (List.Mem.tail _ (List.Mem.tail _ (List.Mem.tail _ (List.Mem.head _))))))) (hl _ _ _ (List.Mem.tail _ (List.Mem.tail _ (List.Mem.tail _ (List.Mem.tail _ (List.Mem.tail _ (List.Mem.tail _ (List.Mem.head _)))))))) (hl _ _ _ (List.Mem.tail _ (List.Mem.tail _ (List.Mem.tail _ (List.Mem.tail _ (List.Mem.tail _ (List.Mem.tail _ (List.Mem.tail _ (List.Mem.head _))))))))))) rfl [.func 40, .tmp 21, .tmp 23] rfl ⟨rfl, (hf 1 (mb rfl)).1, (hf 3 (mb rfl)).1, trivial⟩) rfl (fun _ h => h) (fun _ => rfl)⟩, Plan.goal_run fun vs hf => ⟨wants_none rfl, OpT.conv (OpT.evs (ev' := evL [(24, .bool r5)]) (opT_assign (v := .bool r5) rfl rfl) rfl [.tmp 24] rfl ⟨(hf 4 (mb rfl)), trivial⟩) rfl (fun _ h => Eq.trans h rfl) (fun _ => rfl)⟩, trivial⟩
      intro vs aq17 wq17 hf haq17 hsq17
      clear haq16 hsq16
      replace haq17 := haq17.pick' (L' := [(2, .pointer (some ⟨g1, 0, none⟩)), (3, .pointer (some ⟨g2, 0, none⟩)), (6, .bool r5)]) ⟨rfl, rfl, (congrArg some (show _ = _ from (hf 5 (Nat.le_of_ble_eq_true rfl)))), trivial⟩
      replace hsq17 : St I w0 wq17 [Ch.blk g1 [.int .i64 p0aA.1.1, va0, va1, va2, va3, .string p0aA.2.2.2] 66, Ch.blk g2 [.int .i64 p1aB.1.1, va4, va5, va6, va7, .string p1aB.2.2.2] 66, Ch.own (rSlice 45 (rProd (rSlice 3 rInt) (rSlice 126 (rProd rInt (rProd rInt (rProd rInt rInt)))))) [(vg (vs 1) [1])] r3.1.2, Ch.own (rSlice 27 (rProd rInt (rProd (rSlice 4 rBool) (rSlice 34 (rSlice 3 rInt))))) [(vg (vs 1) [2])] r3.2.1.1, Ch.own (rSlice 147 (rProd rInt (rProd (rSlice 197 (rProd rInt (rProd rInt (rProd rInt rInt)))) rInt))) [(vg (vs 1) [3])] r3.2.1.2, Ch.own (rSlice 107 (rProd rInt (rProd rInt rInt))) [(vg (vs 1) [4])] r3.2.2.1, Ch.own (rSlice 45 (rProd (rSlice 3 rInt) (rSlice 126 (rProd rInt (rProd rInt (rProd rInt rInt)))))) [(vg (vs 3) [1])] r4.1.2, Ch.own (rSlice 27 (rProd rInt (rProd (rSlice 4 rBool) (rSlice 34 (rSlice 3 rInt))))) [(vg (vs 3) [2])] r4.2.1.1, Ch.own (rSlice 147 (rProd rInt (rProd (rSlice 197 (rProd rInt (rProd rInt (rProd rInt rInt)))) rInt))) [(vg (vs 3) [3])] r4.2.1.2, Ch.own (rSlice 107 (rProd rInt (rProd rInt rInt))) [(vg (vs 3) [4])] r4.2.2.1, F] := hsq17
      obtain ⟨v1, ea1⟩ : ∃ x, x = (vg (vs 1) [1]) := ⟨_, rfl⟩
      try rw [← ea1] at haq17
      try rw [← ea1] at hsq17
      clear ea1
      obtain ⟨v2, ea2⟩ : ∃ x, x = (vg (vs 1) [2]) := ⟨_, rfl⟩
      try rw [← ea2] at haq17
      try rw [← ea2] at hsq17
      clear ea2
      obtain ⟨v3, ea3⟩ : ∃ x, x = (vg (vs 1) [3]) := ⟨_, rfl⟩
      try rw [← ea3] at haq17
      try rw [← ea3] at hsq17
      clear ea3
      obtain ⟨v4, ea4⟩ : ∃ x, x = (vg (vs 1) [4]) := ⟨_, rfl⟩
      try rw [← ea4] at haq17
      try rw [← ea4] at hsq17
      clear ea4
      obtain ⟨v5, ea5⟩ : ∃ x, x = (vg (vs 3) [1]) := ⟨_, rfl⟩
      try rw [← ea5] at haq17
      try rw [← ea5] at hsq17
      clear ea5
      obtain ⟨v6, ea6⟩ : ∃ x, x = (vg (vs 3) [2]) := ⟨_, rfl⟩
      try rw [← ea6] at haq17
      try rw [← ea6] at hsq17
      clear ea6
      obtain ⟨v7, ea7⟩ : ∃ x, x = (vg (vs 3) [3]) := ⟨_, rfl⟩
      try rw [← ea7] at haq17
      try rw [← ea7] at hsq17
      clear ea7
      obtain ⟨v8, ea8⟩ : ∃ x, x = (vg (vs 3) [4]) := ⟨_, rfl⟩
      try rw [← ea8] at haq17
      try rw [← ea8] at hsq17
      clear ea8
      clear hf vs
      refine nrm ?_
      refine wp_seq ?_
      refine wp_region_lit ?_
      refine seq_op haq17 hsq17 rfl (opT_load_blk (g := g1) (off := 0) (E := 66) (l := [.int .i64 p0aA.1.1, va0, va1, va2, va3, .string p0aA.2.2.2]) (d := [.int .i64 p0aA.1.1, va0, va1, va2, va3, .string p0aA.2.2.2]) (u := .agg #[.int .i64 p0aA.1.1, va0, va1, va2, va3, .string p0aA.2.2.2]) ti66 rfl rfl rfl rfl rfl rfl) (perm_front (i := 0) rfl) rfl ?_
      rintro u aq18 wq18 hf haq18 (hsq18 : St I w0 wq18 [Ch.blk g1 [.int .i64 p0aA.1.1, va0, va1, va2, va3, .string p0aA.2.2.2] 66, Ch.blk g2 [.int .i64 p1aB.1.1, va4, va5, va6, va7, .string p1aB.2.2.2] 66, Ch.own (rSlice 45 (rProd (rSlice 3 rInt) (rSlice 126 (rProd rInt (rProd rInt (rProd rInt rInt)))))) [v1] r3.1.2, Ch.own (rSlice 27 (rProd rInt (rProd (rSlice 4 rBool) (rSlice 34 (rSlice 3 rInt))))) [v2] r3.2.1.1, Ch.own (rSlice 147 (rProd rInt (rProd (rSlice 197 (rProd rInt (rProd rInt (rProd rInt rInt)))) rInt))) [v3] r3.2.1.2, Ch.own (rSlice 107 (rProd rInt (rProd rInt rInt))) [v4] r3.2.2.1, Ch.own (rSlice 45 (rProd (rSlice 3 rInt) (rSlice 126 (rProd rInt (rProd rInt (rProd rInt rInt)))))) [v5] r4.1.2, Ch.own (rSlice 27 (rProd rInt (rProd (rSlice 4 rBool) (rSlice 34 (rSlice 3 rInt))))) [v6] r4.2.1.1, Ch.own (rSlice 147 (rProd rInt (rProd (rSlice 197 (rProd rInt (rProd rInt (rProd rInt rInt)))) rInt))) [v7] r4.2.1.2, Ch.own (rSlice 107 (rProd rInt (rProd rInt rInt))) [v8] r4.2.2.1, F])
      obtain rfl := Eq.symm hf
      clear haq17 hsq17 aq17 wq17
      obtain ⟨r6, e6, hm⟩ := bind_some hm
      refine seq_op haq18 hsq18 rfl (opT_call (args := #[.agg #[.int .i64 p0aA.1.1, va0, va1, va2, va3, .string p0aA.2.2.2]]) (first := #[]) (captured := #[]) en41 rfl rfl rfl (c_w_toEngine ((p0aA.1.1, p0aA.1.2), (p0aA.2.1.1, p0aA.2.1.2), p0aA.2.2.1, p0aA.2.2.2) _ e6 va0 va1 va2 va3 ra0 ra1 ra2 ra3)) (List.Perm.refl _) rfl ?_
      rintro u aq19 wq19 ⟨v9, v10, v11, v12, rfl⟩ haq19 (hsq19 : St I w0 wq19 [Ch.own (rSlice 45 (rProd (rSlice 3 rInt) (rSlice 126 (rProd rInt (rProd rInt (rProd rInt rInt)))))) [v9] r6.1.2, Ch.own (rSlice 27 (rProd rInt (rProd (rSlice 4 rBool) (rSlice 34 (rSlice 3 rInt))))) [v10] r6.2.1.1, Ch.own (rSlice 147 (rProd rInt (rProd (rSlice 197 (rProd rInt (rProd rInt (rProd rInt rInt)))) rInt))) [v11] r6.2.1.2, Ch.own (rSlice 107 (rProd rInt (rProd rInt rInt))) [v12] r6.2.2.1, Ch.blk g1 [.int .i64 p0aA.1.1, va0, va1, va2, va3, .string p0aA.2.2.2] 66, Ch.blk g2 [.int .i64 p1aB.1.1, va4, va5, va6, va7, .string p1aB.2.2.2] 66, Ch.own (rSlice 45 (rProd (rSlice 3 rInt) (rSlice 126 (rProd rInt (rProd rInt (rProd rInt rInt)))))) [v1] r3.1.2, Ch.own (rSlice 27 (rProd rInt (rProd (rSlice 4 rBool) (rSlice 34 (rSlice 3 rInt))))) [v2] r3.2.1.1, Ch.own (rSlice 147 (rProd rInt (rProd (rSlice 197 (rProd rInt (rProd rInt (rProd rInt rInt)))) rInt))) [v3] r3.2.1.2, Ch.own (rSlice 107 (rProd rInt (rProd rInt rInt))) [v4] r3.2.2.1, Ch.own (rSlice 45 (rProd (rSlice 3 rInt) (rSlice 126 (rProd rInt (rProd rInt (rProd rInt rInt)))))) [v5] r4.1.2, Ch.own (rSlice 27 (rProd rInt (rProd (rSlice 4 rBool) (rSlice 34 (rSlice 3 rInt))))) [v6] r4.2.1.1, Ch.own (rSlice 147 (rProd rInt (rProd (rSlice 197 (rProd rInt (rProd rInt (rProd rInt rInt)))) rInt))) [v7] r4.2.1.2, Ch.own (rSlice 107 (rProd rInt (rProd rInt rInt))) [v8] r4.2.2.1, F])
      clear haq18 hsq18 aq18 wq18
      refine seq_op haq19 hsq19 rfl (opT_alloc (l := [.int .i64 0, .slice none 0 0, .slice none 0 0, .slice none 0 0, .slice none 0 0, .string (⟨#[]⟩)]) tz78 rfl rfl) (List.Perm.refl _) rfl ?_
      rintro _ aq20 wq20 ⟨g3, rfl⟩ haq20 (hsq20 : St I w0 wq20 [Ch.blk g3 [.int .i64 0, .slice none 0 0, .slice none 0 0, .slice none 0 0, .slice none 0 0, .string (⟨#[]⟩)] 78, Ch.own (rSlice 45 (rProd (rSlice 3 rInt) (rSlice 126 (rProd rInt (rProd rInt (rProd rInt rInt)))))) [v9] r6.1.2, Ch.own (rSlice 27 (rProd rInt (rProd (rSlice 4 rBool) (rSlice 34 (rSlice 3 rInt))))) [v10] r6.2.1.1, Ch.own (rSlice 147 (rProd rInt (rProd (rSlice 197 (rProd rInt (rProd rInt (rProd rInt rInt)))) rInt))) [v11] r6.2.1.2, Ch.own (rSlice 107 (rProd rInt (rProd rInt rInt))) [v12] r6.2.2.1, Ch.blk g1 [.int .i64 p0aA.1.1, va0, va1, va2, va3, .string p0aA.2.2.2] 66, Ch.blk g2 [.int .i64 p1aB.1.1, va4, va5, va6, va7, .string p1aB.2.2.2] 66, Ch.own (rSlice 45 (rProd (rSlice 3 rInt) (rSlice 126 (rProd rInt (rProd rInt (rProd rInt rInt)))))) [v1] r3.1.2, Ch.own (rSlice 27 (rProd rInt (rProd (rSlice 4 rBool) (rSlice 34 (rSlice 3 rInt))))) [v2] r3.2.1.1, Ch.own (rSlice 147 (rProd rInt (rProd (rSlice 197 (rProd rInt (rProd rInt (rProd rInt rInt)))) rInt))) [v3] r3.2.1.2, Ch.own (rSlice 107 (rProd rInt (rProd rInt rInt))) [v4] r3.2.2.1, Ch.own (rSlice 45 (rProd (rSlice 3 rInt) (rSlice 126 (rProd rInt (rProd rInt (rProd rInt rInt)))))) [v5] r4.1.2, Ch.own (rSlice 27 (rProd rInt (rProd (rSlice 4 rBool) (rSlice 34 (rSlice 3 rInt))))) [v6] r4.2.1.1, Ch.own (rSlice 147 (rProd rInt (rProd (rSlice 197 (rProd rInt (rProd rInt (rProd rInt rInt)))) rInt))) [v7] r4.2.1.2, Ch.own (rSlice 107 (rProd rInt (rProd rInt rInt))) [v8] r4.2.2.1, F])
      clear haq19 hsq19 aq19 wq19
      refine seq_op haq20 hsq20 rfl (opT_store_blk (g := g3) (off := 0) (l := [.int .i64 0, .slice none 0 0, .slice none 0 0, .slice none 0 0, .slice none 0 0, .string (⟨#[]⟩)]) (d := [.int .i64 r6.1.1, v9, v10, v11, v12, .string r6.2.2.2]) (E := 78) (u := .agg #[.int .i64 r6.1.1, v9, v10, v11, v12, .string r6.2.2.2]) ti78 rfl rfl rfl rfl rfl (allC rfl (allC (Hd.one (St.hd hsq20 1 rfl).1) (allC (Hd.one (St.hd hsq20 2 rfl).1) (allC (Hd.one (St.hd hsq20 3 rfl).1) (allC (Hd.one (St.hd hsq20 4 rfl).1) (allC rfl allN)))))) (Nat.le_of_ble_eq_true rfl)) (perm_front (i := 0) rfl) rfl ?_
      rintro _ aq21 wq21 - haq21 (hsq21 : St I w0 wq21 [Ch.blk g3 [.int .i64 r6.1.1, v9, v10, v11, v12, .string r6.2.2.2] 78, Ch.own (rSlice 45 (rProd (rSlice 3 rInt) (rSlice 126 (rProd rInt (rProd rInt (rProd rInt rInt)))))) [v9] r6.1.2, Ch.own (rSlice 27 (rProd rInt (rProd (rSlice 4 rBool) (rSlice 34 (rSlice 3 rInt))))) [v10] r6.2.1.1, Ch.own (rSlice 147 (rProd rInt (rProd (rSlice 197 (rProd rInt (rProd rInt (rProd rInt rInt)))) rInt))) [v11] r6.2.1.2, Ch.own (rSlice 107 (rProd rInt (rProd rInt rInt))) [v12] r6.2.2.1, Ch.blk g1 [.int .i64 p0aA.1.1, va0, va1, va2, va3, .string p0aA.2.2.2] 66, Ch.blk g2 [.int .i64 p1aB.1.1, va4, va5, va6, va7, .string p1aB.2.2.2] 66, Ch.own (rSlice 45 (rProd (rSlice 3 rInt) (rSlice 126 (rProd rInt (rProd rInt (rProd rInt rInt)))))) [v1] r3.1.2, Ch.own (rSlice 27 (rProd rInt (rProd (rSlice 4 rBool) (rSlice 34 (rSlice 3 rInt))))) [v2] r3.2.1.1, Ch.own (rSlice 147 (rProd rInt (rProd (rSlice 197 (rProd rInt (rProd rInt (rProd rInt rInt)))) rInt))) [v3] r3.2.1.2, Ch.own (rSlice 107 (rProd rInt (rProd rInt rInt))) [v4] r3.2.2.1, Ch.own (rSlice 45 (rProd (rSlice 3 rInt) (rSlice 126 (rProd rInt (rProd rInt (rProd rInt rInt)))))) [v5] r4.1.2, Ch.own (rSlice 27 (rProd rInt (rProd (rSlice 4 rBool) (rSlice 34 (rSlice 3 rInt))))) [v6] r4.2.1.1, Ch.own (rSlice 147 (rProd rInt (rProd (rSlice 197 (rProd rInt (rProd rInt (rProd rInt rInt)))) rInt))) [v7] r4.2.1.2, Ch.own (rSlice 107 (rProd rInt (rProd rInt rInt))) [v8] r4.2.2.1, F])
      clear haq20 hsq20 aq20 wq20
      refine wpList_nil ?_
      replace haq21 := haq21.pick' (L' := [(2, .pointer (some ⟨g1, 0, none⟩)), (3, .pointer (some ⟨g2, 0, none⟩)), (6, .bool r5), (7, .pointer (some ⟨g3, 0, none⟩))]) ⟨rfl, rfl, rfl, rfl, trivial⟩
      refine nrm ?_
      refine wp_seq ?_
      refine wp_region_lit ?_
      refine seq_op haq21 hsq21 rfl (opT_load_blk (g := g2) (off := 0) (E := 66) (l := [.int .i64 p1aB.1.1, va4, va5, va6, va7, .string p1aB.2.2.2]) (d := [.int .i64 p1aB.1.1, va4, va5, va6, va7, .string p1aB.2.2.2]) (u := .agg #[.int .i64 p1aB.1.1, va4, va5, va6, va7, .string p1aB.2.2.2]) ti66 rfl rfl rfl rfl rfl rfl) (perm_front (i := 6) rfl) rfl ?_
      rintro u aq22 wq22 hf haq22 (hsq22 : St I w0 wq22 [Ch.blk g2 [.int .i64 p1aB.1.1, va4, va5, va6, va7, .string p1aB.2.2.2] 66, Ch.blk g3 [.int .i64 r6.1.1, v9, v10, v11, v12, .string r6.2.2.2] 78, Ch.own (rSlice 45 (rProd (rSlice 3 rInt) (rSlice 126 (rProd rInt (rProd rInt (rProd rInt rInt)))))) [v9] r6.1.2, Ch.own (rSlice 27 (rProd rInt (rProd (rSlice 4 rBool) (rSlice 34 (rSlice 3 rInt))))) [v10] r6.2.1.1, Ch.own (rSlice 147 (rProd rInt (rProd (rSlice 197 (rProd rInt (rProd rInt (rProd rInt rInt)))) rInt))) [v11] r6.2.1.2, Ch.own (rSlice 107 (rProd rInt (rProd rInt rInt))) [v12] r6.2.2.1, Ch.blk g1 [.int .i64 p0aA.1.1, va0, va1, va2, va3, .string p0aA.2.2.2] 66, Ch.own (rSlice 45 (rProd (rSlice 3 rInt) (rSlice 126 (rProd rInt (rProd rInt (rProd rInt rInt)))))) [v1] r3.1.2, Ch.own (rSlice 27 (rProd rInt (rProd (rSlice 4 rBool) (rSlice 34 (rSlice 3 rInt))))) [v2] r3.2.1.1, Ch.own (rSlice 147 (rProd rInt (rProd (rSlice 197 (rProd rInt (rProd rInt (rProd rInt rInt)))) rInt))) [v3] r3.2.1.2, Ch.own (rSlice 107 (rProd rInt (rProd rInt rInt))) [v4] r3.2.2.1, Ch.own (rSlice 45 (rProd (rSlice 3 rInt) (rSlice 126 (rProd rInt (rProd rInt (rProd rInt rInt)))))) [v5] r4.1.2, Ch.own (rSlice 27 (rProd rInt (rProd (rSlice 4 rBool) (rSlice 34 (rSlice 3 rInt))))) [v6] r4.2.1.1, Ch.own (rSlice 147 (rProd rInt (rProd (rSlice 197 (rProd rInt (rProd rInt (rProd rInt rInt)))) rInt))) [v7] r4.2.1.2, Ch.own (rSlice 107 (rProd rInt (rProd rInt rInt))) [v8] r4.2.2.1, F])
      obtain rfl := Eq.symm hf
      clear haq21 hsq21 aq21 wq21
      obtain ⟨r7, e7, hm⟩ := bind_some hm
      refine seq_op haq22 hsq22 rfl (opT_call (args := #[.agg #[.int .i64 p1aB.1.1, va4, va5, va6, va7, .string p1aB.2.2.2]]) (first := #[]) (captured := #[]) en41 rfl rfl rfl (c_w_toEngine ((p1aB.1.1, p1aB.1.2), (p1aB.2.1.1, p1aB.2.1.2), p1aB.2.2.1, p1aB.2.2.2) _ e7 va4 va5 va6 va7 ra4 ra5 ra6 ra7)) (List.Perm.refl _) rfl ?_
      rintro u aq23 wq23 ⟨v13, v14, v15, v16, rfl⟩ haq23 (hsq23 : St I w0 wq23 [Ch.own (rSlice 45 (rProd (rSlice 3 rInt) (rSlice 126 (rProd rInt (rProd rInt (rProd rInt rInt)))))) [v13] r7.1.2, Ch.own (rSlice 27 (rProd rInt (rProd (rSlice 4 rBool) (rSlice 34 (rSlice 3 rInt))))) [v14] r7.2.1.1, Ch.own (rSlice 147 (rProd rInt (rProd (rSlice 197 (rProd rInt (rProd rInt (rProd rInt rInt)))) rInt))) [v15] r7.2.1.2, Ch.own (rSlice 107 (rProd rInt (rProd rInt rInt))) [v16] r7.2.2.1, Ch.blk g2 [.int .i64 p1aB.1.1, va4, va5, va6, va7, .string p1aB.2.2.2] 66, Ch.blk g3 [.int .i64 r6.1.1, v9, v10, v11, v12, .string r6.2.2.2] 78, Ch.own (rSlice 45 (rProd (rSlice 3 rInt) (rSlice 126 (rProd rInt (rProd rInt (rProd rInt rInt)))))) [v9] r6.1.2, Ch.own (rSlice 27 (rProd rInt (rProd (rSlice 4 rBool) (rSlice 34 (rSlice 3 rInt))))) [v10] r6.2.1.1, Ch.own (rSlice 147 (rProd rInt (rProd (rSlice 197 (rProd rInt (rProd rInt (rProd rInt rInt)))) rInt))) [v11] r6.2.1.2, Ch.own (rSlice 107 (rProd rInt (rProd rInt rInt))) [v12] r6.2.2.1, Ch.blk g1 [.int .i64 p0aA.1.1, va0, va1, va2, va3, .string p0aA.2.2.2] 66, Ch.own (rSlice 45 (rProd (rSlice 3 rInt) (rSlice 126 (rProd rInt (rProd rInt (rProd rInt rInt)))))) [v1] r3.1.2, Ch.own (rSlice 27 (rProd rInt (rProd (rSlice 4 rBool) (rSlice 34 (rSlice 3 rInt))))) [v2] r3.2.1.1, Ch.own (rSlice 147 (rProd rInt (rProd (rSlice 197 (rProd rInt (rProd rInt (rProd rInt rInt)))) rInt))) [v3] r3.2.1.2, Ch.own (rSlice 107 (rProd rInt (rProd rInt rInt))) [v4] r3.2.2.1, Ch.own (rSlice 45 (rProd (rSlice 3 rInt) (rSlice 126 (rProd rInt (rProd rInt (rProd rInt rInt)))))) [v5] r4.1.2, Ch.own (rSlice 27 (rProd rInt (rProd (rSlice 4 rBool) (rSlice 34 (rSlice 3 rInt))))) [v6] r4.2.1.1, Ch.own (rSlice 147 (rProd rInt (rProd (rSlice 197 (rProd rInt (rProd rInt (rProd rInt rInt)))) rInt))) [v7] r4.2.1.2, Ch.own (rSlice 107 (rProd rInt (rProd rInt rInt))) [v8] r4.2.2.1, F])
      clear haq22 hsq22 aq22 wq22
      refine seq_op haq23 hsq23 rfl (opT_alloc (l := [.int .i64 0, .slice none 0 0, .slice none 0 0, .slice none 0 0, .slice none 0 0, .string (⟨#[]⟩)]) tz78 rfl rfl) (List.Perm.refl _) rfl ?_
      rintro _ aq24 wq24 ⟨g4, rfl⟩ haq24 (hsq24 : St I w0 wq24 [Ch.blk g4 [.int .i64 0, .slice none 0 0, .slice none 0 0, .slice none 0 0, .slice none 0 0, .string (⟨#[]⟩)] 78, Ch.own (rSlice 45 (rProd (rSlice 3 rInt) (rSlice 126 (rProd rInt (rProd rInt (rProd rInt rInt)))))) [v13] r7.1.2, Ch.own (rSlice 27 (rProd rInt (rProd (rSlice 4 rBool) (rSlice 34 (rSlice 3 rInt))))) [v14] r7.2.1.1, Ch.own (rSlice 147 (rProd rInt (rProd (rSlice 197 (rProd rInt (rProd rInt (rProd rInt rInt)))) rInt))) [v15] r7.2.1.2, Ch.own (rSlice 107 (rProd rInt (rProd rInt rInt))) [v16] r7.2.2.1, Ch.blk g2 [.int .i64 p1aB.1.1, va4, va5, va6, va7, .string p1aB.2.2.2] 66, Ch.blk g3 [.int .i64 r6.1.1, v9, v10, v11, v12, .string r6.2.2.2] 78, Ch.own (rSlice 45 (rProd (rSlice 3 rInt) (rSlice 126 (rProd rInt (rProd rInt (rProd rInt rInt)))))) [v9] r6.1.2, Ch.own (rSlice 27 (rProd rInt (rProd (rSlice 4 rBool) (rSlice 34 (rSlice 3 rInt))))) [v10] r6.2.1.1, Ch.own (rSlice 147 (rProd rInt (rProd (rSlice 197 (rProd rInt (rProd rInt (rProd rInt rInt)))) rInt))) [v11] r6.2.1.2, Ch.own (rSlice 107 (rProd rInt (rProd rInt rInt))) [v12] r6.2.2.1, Ch.blk g1 [.int .i64 p0aA.1.1, va0, va1, va2, va3, .string p0aA.2.2.2] 66, Ch.own (rSlice 45 (rProd (rSlice 3 rInt) (rSlice 126 (rProd rInt (rProd rInt (rProd rInt rInt)))))) [v1] r3.1.2, Ch.own (rSlice 27 (rProd rInt (rProd (rSlice 4 rBool) (rSlice 34 (rSlice 3 rInt))))) [v2] r3.2.1.1, Ch.own (rSlice 147 (rProd rInt (rProd (rSlice 197 (rProd rInt (rProd rInt (rProd rInt rInt)))) rInt))) [v3] r3.2.1.2, Ch.own (rSlice 107 (rProd rInt (rProd rInt rInt))) [v4] r3.2.2.1, Ch.own (rSlice 45 (rProd (rSlice 3 rInt) (rSlice 126 (rProd rInt (rProd rInt (rProd rInt rInt)))))) [v5] r4.1.2, Ch.own (rSlice 27 (rProd rInt (rProd (rSlice 4 rBool) (rSlice 34 (rSlice 3 rInt))))) [v6] r4.2.1.1, Ch.own (rSlice 147 (rProd rInt (rProd (rSlice 197 (rProd rInt (rProd rInt (rProd rInt rInt)))) rInt))) [v7] r4.2.1.2, Ch.own (rSlice 107 (rProd rInt (rProd rInt rInt))) [v8] r4.2.2.1, F])
      clear haq23 hsq23 aq23 wq23
      refine seq_op haq24 hsq24 rfl (opT_store_blk (g := g4) (off := 0) (l := [.int .i64 0, .slice none 0 0, .slice none 0 0, .slice none 0 0, .slice none 0 0, .string (⟨#[]⟩)]) (d := [.int .i64 r7.1.1, v13, v14, v15, v16, .string r7.2.2.2]) (E := 78) (u := .agg #[.int .i64 r7.1.1, v13, v14, v15, v16, .string r7.2.2.2]) ti78 rfl rfl rfl rfl rfl (allC rfl (allC (Hd.one (St.hd hsq24 1 rfl).1) (allC (Hd.one (St.hd hsq24 2 rfl).1) (allC (Hd.one (St.hd hsq24 3 rfl).1) (allC (Hd.one (St.hd hsq24 4 rfl).1) (allC rfl allN)))))) (Nat.le_of_ble_eq_true rfl)) (perm_front (i := 0) rfl) rfl ?_
      rintro _ aq25 wq25 - haq25 (hsq25 : St I w0 wq25 [Ch.blk g4 [.int .i64 r7.1.1, v13, v14, v15, v16, .string r7.2.2.2] 78, Ch.own (rSlice 45 (rProd (rSlice 3 rInt) (rSlice 126 (rProd rInt (rProd rInt (rProd rInt rInt)))))) [v13] r7.1.2, Ch.own (rSlice 27 (rProd rInt (rProd (rSlice 4 rBool) (rSlice 34 (rSlice 3 rInt))))) [v14] r7.2.1.1, Ch.own (rSlice 147 (rProd rInt (rProd (rSlice 197 (rProd rInt (rProd rInt (rProd rInt rInt)))) rInt))) [v15] r7.2.1.2, Ch.own (rSlice 107 (rProd rInt (rProd rInt rInt))) [v16] r7.2.2.1, Ch.blk g2 [.int .i64 p1aB.1.1, va4, va5, va6, va7, .string p1aB.2.2.2] 66, Ch.blk g3 [.int .i64 r6.1.1, v9, v10, v11, v12, .string r6.2.2.2] 78, Ch.own (rSlice 45 (rProd (rSlice 3 rInt) (rSlice 126 (rProd rInt (rProd rInt (rProd rInt rInt)))))) [v9] r6.1.2, Ch.own (rSlice 27 (rProd rInt (rProd (rSlice 4 rBool) (rSlice 34 (rSlice 3 rInt))))) [v10] r6.2.1.1, Ch.own (rSlice 147 (rProd rInt (rProd (rSlice 197 (rProd rInt (rProd rInt (rProd rInt rInt)))) rInt))) [v11] r6.2.1.2, Ch.own (rSlice 107 (rProd rInt (rProd rInt rInt))) [v12] r6.2.2.1, Ch.blk g1 [.int .i64 p0aA.1.1, va0, va1, va2, va3, .string p0aA.2.2.2] 66, Ch.own (rSlice 45 (rProd (rSlice 3 rInt) (rSlice 126 (rProd rInt (rProd rInt (rProd rInt rInt)))))) [v1] r3.1.2, Ch.own (rSlice 27 (rProd rInt (rProd (rSlice 4 rBool) (rSlice 34 (rSlice 3 rInt))))) [v2] r3.2.1.1, Ch.own (rSlice 147 (rProd rInt (rProd (rSlice 197 (rProd rInt (rProd rInt (rProd rInt rInt)))) rInt))) [v3] r3.2.1.2, Ch.own (rSlice 107 (rProd rInt (rProd rInt rInt))) [v4] r3.2.2.1, Ch.own (rSlice 45 (rProd (rSlice 3 rInt) (rSlice 126 (rProd rInt (rProd rInt (rProd rInt rInt)))))) [v5] r4.1.2, Ch.own (rSlice 27 (rProd rInt (rProd (rSlice 4 rBool) (rSlice 34 (rSlice 3 rInt))))) [v6] r4.2.1.1, Ch.own (rSlice 147 (rProd rInt (rProd (rSlice 197 (rProd rInt (rProd rInt (rProd rInt rInt)))) rInt))) [v7] r4.2.1.2, Ch.own (rSlice 107 (rProd rInt (rProd rInt rInt))) [v8] r4.2.2.1, F])
      clear haq24 hsq24 aq24 wq24
      refine wpList_nil ?_
      replace haq25 := haq25.pick' (L' := [(2, .pointer (some ⟨g1, 0, none⟩)), (3, .pointer (some ⟨g2, 0, none⟩)), (6, .bool r5), (7, .pointer (some ⟨g3, 0, none⟩)), (8, .pointer (some ⟨g4, 0, none⟩))]) ⟨rfl, rfl, rfl, rfl, rfl, trivial⟩
      refine nrm ?_
      refine wp_seq ?_
      refine wp_region_lit ?_
      refine seq_op haq25 hsq25 rfl (opT_load_blk (g := g3) (off := 0) (E := 78) (l := [.int .i64 r6.1.1, v9, v10, v11, v12, .string r6.2.2.2]) (d := [.int .i64 r6.1.1, v9, v10, v11, v12, .string r6.2.2.2]) (u := .agg #[.int .i64 r6.1.1, v9, v10, v11, v12, .string r6.2.2.2]) ti78 rfl rfl rfl rfl rfl rfl) (perm_front (i := 6) rfl) rfl ?_
      rintro u aq26 wq26 hf haq26 (hsq26 : St I w0 wq26 [Ch.blk g3 [.int .i64 r6.1.1, v9, v10, v11, v12, .string r6.2.2.2] 78, Ch.blk g4 [.int .i64 r7.1.1, v13, v14, v15, v16, .string r7.2.2.2] 78, Ch.own (rSlice 45 (rProd (rSlice 3 rInt) (rSlice 126 (rProd rInt (rProd rInt (rProd rInt rInt)))))) [v13] r7.1.2, Ch.own (rSlice 27 (rProd rInt (rProd (rSlice 4 rBool) (rSlice 34 (rSlice 3 rInt))))) [v14] r7.2.1.1, Ch.own (rSlice 147 (rProd rInt (rProd (rSlice 197 (rProd rInt (rProd rInt (rProd rInt rInt)))) rInt))) [v15] r7.2.1.2, Ch.own (rSlice 107 (rProd rInt (rProd rInt rInt))) [v16] r7.2.2.1, Ch.blk g2 [.int .i64 p1aB.1.1, va4, va5, va6, va7, .string p1aB.2.2.2] 66, Ch.own (rSlice 45 (rProd (rSlice 3 rInt) (rSlice 126 (rProd rInt (rProd rInt (rProd rInt rInt)))))) [v9] r6.1.2, Ch.own (rSlice 27 (rProd rInt (rProd (rSlice 4 rBool) (rSlice 34 (rSlice 3 rInt))))) [v10] r6.2.1.1, Ch.own (rSlice 147 (rProd rInt (rProd (rSlice 197 (rProd rInt (rProd rInt (rProd rInt rInt)))) rInt))) [v11] r6.2.1.2, Ch.own (rSlice 107 (rProd rInt (rProd rInt rInt))) [v12] r6.2.2.1, Ch.blk g1 [.int .i64 p0aA.1.1, va0, va1, va2, va3, .string p0aA.2.2.2] 66, Ch.own (rSlice 45 (rProd (rSlice 3 rInt) (rSlice 126 (rProd rInt (rProd rInt (rProd rInt rInt)))))) [v1] r3.1.2, Ch.own (rSlice 27 (rProd rInt (rProd (rSlice 4 rBool) (rSlice 34 (rSlice 3 rInt))))) [v2] r3.2.1.1, Ch.own (rSlice 147 (rProd rInt (rProd (rSlice 197 (rProd rInt (rProd rInt (rProd rInt rInt)))) rInt))) [v3] r3.2.1.2, Ch.own (rSlice 107 (rProd rInt (rProd rInt rInt))) [v4] r3.2.2.1, Ch.own (rSlice 45 (rProd (rSlice 3 rInt) (rSlice 126 (rProd rInt (rProd rInt (rProd rInt rInt)))))) [v5] r4.1.2, Ch.own (rSlice 27 (rProd rInt (rProd (rSlice 4 rBool) (rSlice 34 (rSlice 3 rInt))))) [v6] r4.2.1.1, Ch.own (rSlice 147 (rProd rInt (rProd (rSlice 197 (rProd rInt (rProd rInt (rProd rInt rInt)))) rInt))) [v7] r4.2.1.2, Ch.own (rSlice 107 (rProd rInt (rProd rInt rInt))) [v8] r4.2.2.1, F])
      obtain rfl := Eq.symm hf
      clear haq25 hsq25 aq25 wq25
      refine seq_op haq26 hsq26 rfl (opT_load_blk (g := g4) (off := 0) (E := 78) (l := [.int .i64 r7.1.1, v13, v14, v15, v16, .string r7.2.2.2]) (d := [.int .i64 r7.1.1, v13, v14, v15, v16, .string r7.2.2.2]) (u := .agg #[.int .i64 r7.1.1, v13, v14, v15, v16, .string r7.2.2.2]) ti78 rfl rfl rfl rfl rfl rfl) (perm_front (i := 1) rfl) rfl ?_
      rintro u aq27 wq27 hf haq27 (hsq27 : St I w0 wq27 [Ch.blk g4 [.int .i64 r7.1.1, v13, v14, v15, v16, .string r7.2.2.2] 78, Ch.blk g3 [.int .i64 r6.1.1, v9, v10, v11, v12, .string r6.2.2.2] 78, Ch.own (rSlice 45 (rProd (rSlice 3 rInt) (rSlice 126 (rProd rInt (rProd rInt (rProd rInt rInt)))))) [v13] r7.1.2, Ch.own (rSlice 27 (rProd rInt (rProd (rSlice 4 rBool) (rSlice 34 (rSlice 3 rInt))))) [v14] r7.2.1.1, Ch.own (rSlice 147 (rProd rInt (rProd (rSlice 197 (rProd rInt (rProd rInt (rProd rInt rInt)))) rInt))) [v15] r7.2.1.2, Ch.own (rSlice 107 (rProd rInt (rProd rInt rInt))) [v16] r7.2.2.1, Ch.blk g2 [.int .i64 p1aB.1.1, va4, va5, va6, va7, .string p1aB.2.2.2] 66, Ch.own (rSlice 45 (rProd (rSlice 3 rInt) (rSlice 126 (rProd rInt (rProd rInt (rProd rInt rInt)))))) [v9] r6.1.2, Ch.own (rSlice 27 (rProd rInt (rProd (rSlice 4 rBool) (rSlice 34 (rSlice 3 rInt))))) [v10] r6.2.1.1, Ch.own (rSlice 147 (rProd rInt (rProd (rSlice 197 (rProd rInt (rProd rInt (rProd rInt rInt)))) rInt))) [v11] r6.2.1.2, Ch.own (rSlice 107 (rProd rInt (rProd rInt rInt))) [v12] r6.2.2.1, Ch.blk g1 [.int .i64 p0aA.1.1, va0, va1, va2, va3, .string p0aA.2.2.2] 66, Ch.own (rSlice 45 (rProd (rSlice 3 rInt) (rSlice 126 (rProd rInt (rProd rInt (rProd rInt rInt)))))) [v1] r3.1.2, Ch.own (rSlice 27 (rProd rInt (rProd (rSlice 4 rBool) (rSlice 34 (rSlice 3 rInt))))) [v2] r3.2.1.1, Ch.own (rSlice 147 (rProd rInt (rProd (rSlice 197 (rProd rInt (rProd rInt (rProd rInt rInt)))) rInt))) [v3] r3.2.1.2, Ch.own (rSlice 107 (rProd rInt (rProd rInt rInt))) [v4] r3.2.2.1, Ch.own (rSlice 45 (rProd (rSlice 3 rInt) (rSlice 126 (rProd rInt (rProd rInt (rProd rInt rInt)))))) [v5] r4.1.2, Ch.own (rSlice 27 (rProd rInt (rProd (rSlice 4 rBool) (rSlice 34 (rSlice 3 rInt))))) [v6] r4.2.1.1, Ch.own (rSlice 147 (rProd rInt (rProd (rSlice 197 (rProd rInt (rProd rInt (rProd rInt rInt)))) rInt))) [v7] r4.2.1.2, Ch.own (rSlice 107 (rProd rInt (rProd rInt rInt))) [v8] r4.2.2.1, F])
      obtain rfl := Eq.symm hf
      clear haq26 hsq26 aq26 wq26
      obtain ⟨r8, e8, hm⟩ := bind_some hm
      refine seq_op haq27 hsq27 rfl (OpT.lend (ls := [Ch.own (rSlice 45 (rProd (rSlice 3 rInt) (rSlice 126 (rProd rInt (rProd rInt (rProd rInt rInt)))))) [v9] r6.1.2, Ch.own (rSlice 27 (rProd rInt (rProd (rSlice 4 rBool) (rSlice 34 (rSlice 3 rInt))))) [v10] r6.2.1.1, Ch.own (rSlice 147 (rProd rInt (rProd (rSlice 197 (rProd rInt (rProd rInt (rProd rInt rInt)))) rInt))) [v11] r6.2.1.2, Ch.own (rSlice 107 (rProd rInt (rProd rInt rInt))) [v12] r6.2.2.1, Ch.own (rSlice 45 (rProd (rSlice 3 rInt) (rSlice 126 (rProd rInt (rProd rInt (rProd rInt rInt)))))) [v13] r7.1.2, Ch.own (rSlice 27 (rProd rInt (rProd (rSlice 4 rBool) (rSlice 34 (rSlice 3 rInt))))) [v14] r7.2.1.1, Ch.own (rSlice 147 (rProd rInt (rProd (rSlice 197 (rProd rInt (rProd rInt (rProd rInt rInt)))) rInt))) [v15] r7.2.1.2, Ch.own (rSlice 107 (rProd rInt (rProd rInt rInt))) [v16] r7.2.2.1]) (gv := fun v => []) (fun _ => trivial) fun J hJ hl hb => opT_call (args := #[.agg #[.int .i64 r6.1.1, v9, v10, v11, v12, .string r6.2.2.2], .agg #[.int .i64 r7.1.1, v13, v14, v15, v16, .string r7.2.2.2]]) (first := #[]) (captured := #[]) en42 rfl rfl rfl (c_i_EqualEngines ((r6.1.1, r6.1.2), (r6.2.1.1, r6.2.1.2), r6.2.2.1, r6.2.2.2) ((r7.1.1, r7.1.2), (r7.2.1.1, r7.2.1.2), r7.2.2.1, r7.2.2.2) _ e8 v9 v10 v11 v12 v13 v14 v15 v16 (hl _ _ _ (List.Mem.head _)) (hl _ _ _ (List.Mem.tail _ (List.Mem.head _))) (hl _ _ _ (List.Mem.tail _ (List.Mem.tail _ (List.Mem.head _)))) (hl _ _ _ (List.Mem.tail _ (List.Mem.tail _ (List.Mem.tail _ (List.Mem.head _))))) (hl _ _ _ (List.Mem.tail _ (List.Mem.tail _ (List.Mem.tail _ (List.Mem.tail _ (List.Mem.head _)))))) (hl _ _ _ (List.Mem.tail _ (List.Mem.tail _ (List.Mem.tail _ (List.Mem.tail _ (List.Mem.tail _ (List.Mem.head _))))))) (hl _ _ _ (List.Mem.tail _ (List.Mem.tail _ (List.Mem.tail _ (List.Mem.tail _ (List.Mem.tail _ (List.Mem.tail _ (List.Mem.head _)))))))) (hl _ _ _ (List.Mem.tail _ (List.Mem.tail _ (List.Mem.tail _ (List.Mem.tail _ (List.Mem.tail _ (List.Mem.tail _ (List.Mem.tail _ (List.Mem.head _))))))))))) (perm_sel [7, 8, 9, 10, 2, 3, 4, 5, 0, 1, 6, 11, 12, 13, 14, 15, 16, 17, 18, 19, 20] (m := 21) rfl rfl) rfl ?_
      rintro u aq28 wq28 hf haq28 (hsq28 : St I w0 wq28 [Ch.own (rSlice 45 (rProd (rSlice 3 rInt) (rSlice 126 (rProd rInt (rProd rInt (rProd rInt rInt)))))) [v9] r6.1.2, Ch.own (rSlice 27 (rProd rInt (rProd (rSlice 4 rBool) (rSlice 34 (rSlice 3 rInt))))) [v10] r6.2.1.1, Ch.own (rSlice 147 (rProd rInt (rProd (rSlice 197 (rProd rInt (rProd rInt (rProd rInt rInt)))) rInt))) [v11] r6.2.1.2, Ch.own (rSlice 107 (rProd rInt (rProd rInt rInt))) [v12] r6.2.2.1, Ch.own (rSlice 45 (rProd (rSlice 3 rInt) (rSlice 126 (rProd rInt (rProd rInt (rProd rInt rInt)))))) [v13] r7.1.2, Ch.own (rSlice 27 (rProd rInt (rProd (rSlice 4 rBool) (rSlice 34 (rSlice 3 rInt))))) [v14] r7.2.1.1, Ch.own (rSlice 147 (rProd rInt (rProd (rSlice 197 (rProd rInt (rProd rInt (rProd rInt rInt)))) rInt))) [v15] r7.2.1.2, Ch.own (rSlice 107 (rProd rInt (rProd rInt rInt))) [v16] r7.2.2.1, Ch.blk g4 [.int .i64 r7.1.1, v13, v14, v15, v16, .string r7.2.2.2] 78, Ch.blk g3 [.int .i64 r6.1.1, v9, v10, v11, v12, .string r6.2.2.2] 78, Ch.blk g2 [.int .i64 p1aB.1.1, va4, va5, va6, va7, .string p1aB.2.2.2] 66, Ch.blk g1 [.int .i64 p0aA.1.1, va0, va1, va2, va3, .string p0aA.2.2.2] 66, Ch.own (rSlice 45 (rProd (rSlice 3 rInt) (rSlice 126 (rProd rInt (rProd rInt (rProd rInt rInt)))))) [v1] r3.1.2, Ch.own (rSlice 27 (rProd rInt (rProd (rSlice 4 rBool) (rSlice 34 (rSlice 3 rInt))))) [v2] r3.2.1.1, Ch.own (rSlice 147 (rProd rInt (rProd (rSlice 197 (rProd rInt (rProd rInt (rProd rInt rInt)))) rInt))) [v3] r3.2.1.2, Ch.own (rSlice 107 (rProd rInt (rProd rInt rInt))) [v4] r3.2.2.1, Ch.own (rSlice 45 (rProd (rSlice 3 rInt) (rSlice 126 (rProd rInt (rProd rInt (rProd rInt rInt)))))) [v5] r4.1.2, Ch.own (rSlice 27 (rProd rInt (rProd (rSlice 4 rBool) (rSlice 34 (rSlice 3 rInt))))) [v6] r4.2.1.1, Ch.own (rSlice 147 (rProd rInt (rProd (rSlice 197 (rProd rInt (rProd rInt (rProd rInt rInt)))) rInt))) [v7] r4.2.1.2, Ch.own (rSlice 107 (rProd rInt (rProd rInt rInt))) [v8] r4.2.2.1, F])
      obtain rfl := Eq.symm hf
      clear haq27 hsq27 aq27 wq27
      refine seq_op0 haq28 hsq28 (opT_assign (v := .bool r8) rfl rfl) rfl rfl ?_
      rintro u aq29 wq29 hf haq29 hsq29
      obtain rfl := Eq.symm hf
      clear haq28 hsq28 aq28 wq28
      refine wpList_nil ?_
      replace haq29 := haq29.pick' (L' := [(2, .pointer (some ⟨g1, 0, none⟩)), (3, .pointer (some ⟨g2, 0, none⟩)), (6, .bool r5), (7, .pointer (some ⟨g3, 0, none⟩)), (8, .pointer (some ⟨g4, 0, none⟩)), (9, .bool r8)]) ⟨rfl, rfl, rfl, rfl, rfl, rfl, trivial⟩
      refine nrm ?_
      refine wp_seq ?_
      refine wp_seq ?_
      refine wp_region_lit ?_
      refine seq_op0 haq29 hsq29 (opT_move (v := .bool r8) rfl rfl) rfl rfl ?_
      rintro u aq30 wq30 hf haq30 hsq30
      obtain rfl := Eq.symm hf
      clear haq29 hsq29 aq29 wq29
      refine seq_op0 haq30 hsq30 (opT_move (v := .bool r5) rfl rfl) rfl rfl ?_
      rintro u aq31 wq31 hf haq31 hsq31
      obtain rfl := Eq.symm hf
      clear haq30 hsq30 aq30 wq30
      refine seq_op0 haq31 hsq31 (opT_neb (b := r8) (c := r5) Try.underlying4 rfl rfl rfl) rfl rfl ?_
      rintro u aq32 wq32 hf haq32 hsq32
      obtain rfl := Eq.symm hf
      clear haq31 hsq31 aq31 wq31
      refine wpList_nil ?_
      replace haq32 := haq32.pick' (L' := [(2, .pointer (some ⟨g1, 0, none⟩)), (3, .pointer (some ⟨g2, 0, none⟩)), (7, .pointer (some ⟨g3, 0, none⟩)), (8, .pointer (some ⟨g4, 0, none⟩)), (34, .bool (r8 != r5))]) ⟨rfl, rfl, rfl, rfl, rfl, trivial⟩
      refine nrm ?_
      rcases two (r8 != r5) with hb3 | hb3
      · replace hm := ifFe hb3 hm
        refine cnd_false (b := r8 != r5) haq32 rfl rfl hb3 ?_
        refine wp_skip ?_
        refine nrm ?_
        refine wp_seq ?_
        refine wp_seq ?_
        obtain ⟨r9, e9, hm⟩ := bind_some hm
        obtain ⟨r10, e10, hm⟩ := bind_some hm
        refine wp_draw (L := [(2, .pointer (some ⟨g1, 0, none⟩)), (3, .pointer (some ⟨g2, 0, none⟩)), (7, .pointer (some ⟨g3, 0, none⟩)), (8, .pointer (some ⟨g4, 0, none⟩)), (34, .bool (r8 != r5))]) (C := [Ch.own (rSlice 45 (rProd (rSlice 3 rInt) (rSlice 126 (rProd rInt (rProd rInt (rProd rInt rInt)))))) [v13] r7.1.2, Ch.own (rSlice 27 (rProd rInt (rProd (rSlice 4 rBool) (rSlice 34 (rSlice 3 rInt))))) [v14] r7.2.1.1, Ch.own (rSlice 147 (rProd rInt (rProd (rSlice 197 (rProd rInt (rProd rInt (rProd rInt rInt)))) rInt))) [v15] r7.2.1.2, Ch.own (rSlice 107 (rProd rInt (rProd rInt rInt))) [v16] r7.2.2.1, Ch.blk g4 [.int .i64 r7.1.1, v13, v14, v15, v16, .string r7.2.2.2] 78, Ch.blk g2 [.int .i64 p1aB.1.1, va4, va5, va6, va7, .string p1aB.2.2.2] 66, Ch.own (rSlice 45 (rProd (rSlice 3 rInt) (rSlice 126 (rProd rInt (rProd rInt (rProd rInt rInt)))))) [v1] r3.1.2, Ch.own (rSlice 27 (rProd rInt (rProd (rSlice 4 rBool) (rSlice 34 (rSlice 3 rInt))))) [v2] r3.2.1.1, Ch.own (rSlice 147 (rProd rInt (rProd (rSlice 197 (rProd rInt (rProd rInt (rProd rInt rInt)))) rInt))) [v3] r3.2.1.2, Ch.own (rSlice 107 (rProd rInt (rProd rInt rInt))) [v4] r3.2.2.1, Ch.own (rSlice 45 (rProd (rSlice 3 rInt) (rSlice 126 (rProd rInt (rProd rInt (rProd rInt rInt)))))) [v5] r4.1.2, Ch.own (rSlice 27 (rProd rInt (rProd (rSlice 4 rBool) (rSlice 34 (rSlice 3 rInt))))) [v6] r4.2.1.1, Ch.own (rSlice 147 (rProd rInt (rProd (rSlice 197 (rProd rInt (rProd rInt (rProd rInt rInt)))) rInt))) [v7] r4.2.1.2, Ch.own (rSlice 107 (rProd rInt (rProd rInt rInt))) [v8] r4.2.2.1, F]) { ops := [⟨[0], [], [], [0], fun | [xo0] => xo0 = .agg #[.int .i64 r6.1.1, v9, v10, v11, v12, .string r6.2.2.2] | _ => True, [(7, none)]⟩, ⟨[1], [], [], [1], fun | [xo1] => xo1 = .agg #[.int .i64 p0aA.1.1, va0, va1, va2, va3, .string p0aA.2.2.2] | _ => True, [(2, none)]⟩, ⟨[], [], [6, 7, 8, 9], [2], fun | [xo2] => xo2 = .agg #[.int .i64 r9.1.1, (vg xo2 [1]), (vg xo2 [2]), (vg xo2 [3]), (vg xo2 [4]), .string r9.2.2.2] ∧ Hd (vg xo2 [1]) (r9.1.2).length ∧ Hd (vg xo2 [2]) (r9.2.1.1).length ∧ Hd (vg xo2 [3]) (r9.2.1.2).length ∧ Hd (vg xo2 [4]) (r9.2.2.1).length | _ => True, [(36, some 1)]⟩, ⟨[2, 3, 4, 5, 6, 7, 8, 9], [], [], [3], fun | [xo3] => xo3 = .bool r10 | _ => True, [(35, some 0), (37, some 2)]⟩, ⟨[], [], [], [4], fun | [xo4] => xo4 = .bool (!r10) | _ => True, [(38, some 3)]⟩], res := [⟨[], fun _ => Ch.blk g3 [.int .i64 r6.1.1, v9, v10, v11, v12, .string r6.2.2.2] 78⟩, ⟨[], fun _ => Ch.blk g1 [.int .i64 p0aA.1.1, va0, va1, va2, va3, .string p0aA.2.2.2] 66⟩, ⟨[], fun _ => Ch.own (rSlice 45 (rProd (rSlice 3 rInt) (rSlice 126 (rProd rInt (rProd rInt (rProd rInt rInt)))))) [v9] r6.1.2⟩, ⟨[], fun _ => Ch.own (rSlice 27 (rProd rInt (rProd (rSlice 4 rBool) (rSlice 34 (rSlice 3 rInt))))) [v10] r6.2.1.1⟩, ⟨[], fun _ => Ch.own (rSlice 147 (rProd rInt (rProd (rSlice 197 (rProd rInt (rProd rInt (rProd rInt rInt)))) rInt))) [v11] r6.2.1.2⟩, ⟨[], fun _ => Ch.own (rSlice 107 (rProd rInt (rProd rInt rInt))) [v12] r6.2.2.1⟩, ⟨[2], fun | [xo2] => Ch.own (rSlice 45 (rProd (rSlice 3 rInt) (rSlice 126 (rProd rInt (rProd rInt (rProd rInt rInt)))))) [(vg xo2 [1])] r9.1.2 | _ => Ch.fr (fun _ => none) []⟩, ⟨[2], fun | [xo2] => Ch.own (rSlice 27 (rProd rInt (rProd (rSlice 4 rBool) (rSlice 34 (rSlice 3 rInt))))) [(vg xo2 [2])] r9.2.1.1 | _ => Ch.fr (fun _ => none) []⟩, ⟨[2], fun | [xo2] => Ch.own (rSlice 147 (rProd rInt (rProd (rSlice 197 (rProd rInt (rProd rInt (rProd rInt rInt)))) rInt))) [(vg xo2 [3])] r9.2.1.2 | _ => Ch.fr (fun _ => none) []⟩, ⟨[2], fun | [xo2] => Ch.own (rSlice 107 (rProd rInt (rProd rInt rInt))) [(vg xo2 [4])] r9.2.2.1 | _ => Ch.fr (fun _ => none) []⟩], base := [0, 1, 2, 3, 4, 5], pre := [[], [], [1], [0, 1, 2], [0, 1, 2, 3]], fin := [(3, none), (8, none), (39, some 4)], left := [0, 1, 2, 3, 4, 5, 6, 7, 8, 9] } (by kernel_rfl) haq32 hsq32 (perm_sel [9, 11, 0, 1, 2, 3, 4, 5, 6, 7, 8, 10, 12, 13, 14, 15, 16, 17, 18, 19, 20] (m := 21) rfl rfl) (by kernel_rfl) (by kernel_rfl) ?_ ?_
        · exact ⟨Plan.goal_run fun vs hf => ⟨wants_none rfl, OpT.conv (OpT.evs (ev' := evL [(7, .pointer (some ⟨g3, 0, none⟩))]) (opT_load_blk (g := g3) (off := 0) (E := 78) (l := [.int .i64 r6.1.1, v9, v10, v11, v12, .string r6.2.2.2]) (d := [.int .i64 r6.1.1, v9, v10, v11, v12, .string r6.2.2.2]) (u := .agg #[.int .i64 r6.1.1, v9, v10, v11, v12, .string r6.2.2.2]) ti78 rfl rfl rfl rfl rfl rfl) rfl [.tmp 7] rfl ⟨rfl, trivial⟩) rfl (fun _ h => Eq.trans h rfl) (fun _ => rfl)⟩, Plan.goal_run fun vs hf => ⟨wants_none rfl, OpT.conv (OpT.evs (ev' := evL [(2, .pointer (some ⟨g1, 0, none⟩))]) (opT_load_blk (g := g1) (off := 0) (E := 66) (l := [.int .i64 p0aA.1.1, va0, va1, va2, va3, .string p0aA.2.2.2]) (d := [.int .i64 p0aA.1.1, va0, va1, va2, va3, .string p0aA.2.2.2]) (u := .agg #[.int .i64 p0aA.1.1, va0, va1, va2, va3, .string p0aA.2.2.2]) ti66 rfl rfl rfl rfl rfl rfl) rfl [.tmp 2] rfl ⟨rfl, trivial⟩) rfl (fun _ h => Eq.trans h rfl) (fun _ => rfl)⟩, Plan.goal_run fun vs hf => ⟨wants_none rfl, OpT.conv (OpT.evs (ev' := evL [(36, .agg #[.int .i64 p0aA.1.1, va0, va1, va2, va3, .string p0aA.2.2.2])]) (OpT.hdk (E := 45) (R := rProd (rSlice 3 rInt) (rSlice 126 (rProd rInt (rProd rInt (rProd rInt rInt))))) (xs := r9.1.2) (fun v => vg v [1]) 0 (fun _ => rfl) (OpT.hdk (E := 27) (R := rProd rInt (rProd (rSlice 4 rBool) (rSlice 34 (rSlice 3 rInt)))) (xs := r9.2.1.1) (fun v => vg v [2]) 1 (fun _ => rfl) (OpT.hdk (E := 147) (R := rProd rInt (rProd (rSlice 197 (rProd rInt (rProd rInt (rProd rInt rInt)))) rInt)) (xs := r9.2.1.2) (fun v => vg v [3]) 2 (fun _ => rfl) (OpT.hdk (E := 107) (R := rProd rInt (rProd rInt rInt)) (xs := r9.2.2.1) (fun v => vg v [4]) 3 (fun _ => rfl) (opT_call (args := #[.agg #[.int .i64 p0aA.1.1, va0, va1, va2, va3, .string p0aA.2.2.2]]) (first := #[]) (captured := #[]) en41 rfl rfl rfl (c_w_toEngine ((p0aA.1.1, p0aA.1.2), (p0aA.2.1.1, p0aA.2.1.2), p0aA.2.2.1, p0aA.2.2.2) _ e9 va0 va1 va2 va3 ra0 ra1 ra2 ra3)))))) rfl [.func 41, .tmp 36] rfl ⟨rfl, (hf 1 (mb rfl)), trivial⟩) rfl (fun _ h => by obtain ⟨⟨⟨⟨h, k3⟩, k2⟩, k1⟩, k0⟩ := h; obtain ⟨_, _, _, _, rfl⟩ := h; exact ⟨rfl, k0, k1, k2, k3⟩) (fun _ => rfl)⟩, Plan.goal_run fun vs hf => ⟨wants_none rfl, OpT.conv (OpT.evs (ev' := evL [(35, .agg #[.int .i64 r6.1.1, v9, v10, v11, v12, .string r6.2.2.2]), (37, .agg #[.int .i64 r9.1.1, (vg (vs 2) [1]), (vg (vs 2) [2]), (vg (vs 2) [3]), (vg (vs 2) [4]), .string r9.2.2.2])]) (OpT.lend (ls := [Ch.own (rSlice 45 (rProd (rSlice 3 rInt) (rSlice 126 (rProd rInt (rProd rInt (rProd rInt rInt)))))) [v9] r6.1.2, Ch.own (rSlice 27 (rProd rInt (rProd (rSlice 4 rBool) (rSlice 34 (rSlice 3 rInt))))) [v10] r6.2.1.1, Ch.own (rSlice 147 (rProd rInt (rProd (rSlice 197 (rProd rInt (rProd rInt (rProd rInt rInt)))) rInt))) [v11] r6.2.1.2, Ch.own (rSlice 107 (rProd rInt (rProd rInt rInt))) [v12] r6.2.2.1, Ch.own (rSlice 45 (rProd (rSlice 3 rInt) (rSlice 126 (rProd rInt (rProd rInt (rProd rInt rInt)))))) [(vg (vs 2) [1])] r9.1.2, Ch.own (rSlice 27 (rProd rInt (rProd (rSlice 4 rBool) (rSlice 34 (rSlice 3 rInt))))) [(vg (vs 2) [2])] r9.2.1.1, Ch.own (rSlice 147 (rProd rInt (rProd (rSlice 197 (rProd rInt (rProd rInt (rProd rInt rInt)))) rInt))) [(vg (vs 2) [3])] r9.2.1.2, Ch.own (rSlice 107 (rProd rInt (rProd rInt rInt))) [(vg (vs 2) [4])] r9.2.2.1]) (gv := fun v => []) (fun _ => trivial) fun J hJ hl hb => opT_call (args := #[.agg #[.int .i64 r6.1.1, v9, v10, v11, v12, .string r6.2.2.2], .agg #[.int .i64 r9.1.1, (vg (vs 2) [1]), (vg (vs 2) [2]), (vg (vs 2) [3]), (vg (vs 2) [4]), .string r9.2.2.2]]) (first := #[]) (captured := #[]) en43 rfl rfl rfl (c_w_eqEngine ((r6.1.1, r6.1.2), (r6.2.1.1, r6.2.1.2), r6.2.2.1, r6.2.2.2) ((r9.1.1, r9.1.2), (r9.2.1.1, r9.2.1.2), r9.2.2.1, r9.2.2.2) _ e10 v9 v10 v11 v12 (vg (vs 2) [1]) (vg (vs 2) [2]) (vg (vs 2) [3]) (vg (vs 2) [4]) (hl _ _ _ (List.Mem.head _)) (hl _ _ _ (List.Mem.tail _ (List.Mem.head _))) (hl _ _ _ (List.Mem.tail _ (List.Mem.tail _ (List.Mem.head _)))) (hl _ _ _ (List.Mem.tail _ (List.Mem.tail _ (List.Mem.tail _ (List.Mem.head _))))) (hl _ _ _ (List.Mem.tail _ (List.Mem.tail _ (List.Mem.tail _ (List.Mem.tail _ (List.Mem.head _)))))) (hl _ _ _ (List.Mem.tail _ (List.Mem.tail _ (List.Mem.tail _ (List.Mem.tail _ (List.Mem.tail _ (List.Mem.head _))))))) (hl _ _ _ (List.Mem.tail _ (List.Mem.tail _ (List.Mem.tail _ (List.Mem.tail _ (List.Mem.tail _ (List.Mem.tail _ (List.Mem.head _)))))))) (hl _ _ _ (List.Mem.tail _ (List.Mem.tail _ (List.Mem.tail _ (List.Mem.tail _ (List.Mem.tail _ (List.Mem.tail _ (List.Mem.tail _ (List.Mem.head _))))))))))) rfl [.func 43, .tmp 35, .tmp 37] rfl ⟨rfl, (hf 0 (mb rfl)), (hf 2 (mb rfl)).1, trivial⟩) rfl (fun _ h => h) (fun _ => rfl)⟩, Plan.goal_run fun vs hf => ⟨wants_none rfl, OpT.conv (OpT.evs (ev' := evL [(38, .bool r10)]) (opT_not (b := r10) rfl rfl) rfl [.tmp 38] rfl ⟨(hf 3 (mb rfl)), trivial⟩) rfl (fun _ h => Eq.trans h rfl) (fun _ => rfl)⟩, trivial⟩
        intro vs aq33 wq33 hf haq33 hsq33
        clear haq32 hsq32
        replace haq33 := haq33.pick' (L' := [(3, .pointer (some ⟨g2, 0, none⟩)), (8, .pointer (some ⟨g4, 0, none⟩)), (39, .bool (!r10))]) ⟨rfl, rfl, (congrArg some (show _ = _ from (hf 4 (Nat.le_of_ble_eq_true rfl)))), trivial⟩
        replace hsq33 : St I w0 wq33 [Ch.blk g3 [.int .i64 r6.1.1, v9, v10, v11, v12, .string r6.2.2.2] 78, Ch.blk g1 [.int .i64 p0aA.1.1, va0, va1, va2, va3, .string p0aA.2.2.2] 66, Ch.own (rSlice 45 (rProd (rSlice 3 rInt) (rSlice 126 (rProd rInt (rProd rInt (rProd rInt rInt)))))) [v9] r6.1.2, Ch.own (rSlice 27 (rProd rInt (rProd (rSlice 4 rBool) (rSlice 34 (rSlice 3 rInt))))) [v10] r6.2.1.1, Ch.own (rSlice 147 (rProd rInt (rProd (rSlice 197 (rProd rInt (rProd rInt (rProd rInt rInt)))) rInt))) [v11] r6.2.1.2, Ch.own (rSlice 107 (rProd rInt (rProd rInt rInt))) [v12] r6.2.2.1, Ch.own (rSlice 45 (rProd (rSlice 3 rInt) (rSlice 126 (rProd rInt (rProd rInt (rProd rInt rInt)))))) [(vg (vs 2) [1])] r9.1.2, Ch.own (rSlice 27 (rProd rInt (rProd (rSlice 4 rBool) (rSlice 34 (rSlice 3 rInt))))) [(vg (vs 2) [2])] r9.2.1.1, Ch.own (rSlice 147 (rProd rInt (rProd (rSlice 197 (rProd rInt (rProd rInt (rProd rInt rInt)))) rInt))) [(vg (vs 2) [3])] r9.2.1.2, Ch.own (rSlice 107 (rProd rInt (rProd rInt rInt))) [(vg (vs 2) [4])] r9.2.2.1, Ch.own (rSlice 45 (rProd (rSlice 3 rInt) (rSlice 126 (rProd rInt (rProd rInt (rProd rInt rInt)))))) [v13] r7.1.2, Ch.own (rSlice 27 (rProd rInt (rProd (rSlice 4 rBool) (rSlice 34 (rSlice 3 rInt))))) [v14] r7.2.1.1, Ch.own (rSlice 147 (rProd rInt (rProd (rSlice 197 (rProd rInt (rProd rInt (rProd rInt rInt)))) rInt))) [v15] r7.2.1.2, Ch.own (rSlice 107 (rProd rInt (rProd rInt rInt))) [v16] r7.2.2.1, Ch.blk g4 [.int .i64 r7.1.1, v13, v14, v15, v16, .string r7.2.2.2] 78, Ch.blk g2 [.int .i64 p1aB.1.1, va4, va5, va6, va7, .string p1aB.2.2.2] 66, Ch.own (rSlice 45 (rProd (rSlice 3 rInt) (rSlice 126 (rProd rInt (rProd rInt (rProd rInt rInt)))))) [v1] r3.1.2, Ch.own (rSlice 27 (rProd rInt (rProd (rSlice 4 rBool) (rSlice 34 (rSlice 3 rInt))))) [v2] r3.2.1.1, Ch.own (rSlice 147 (rProd rInt (rProd (rSlice 197 (rProd rInt (rProd rInt (rProd rInt rInt)))) rInt))) [v3] r3.2.1.2, Ch.own (rSlice 107 (rProd rInt (rProd rInt rInt))) [v4] r3.2.2.1, Ch.own (rSlice 45 (rProd (rSlice 3 rInt) (rSlice 126 (rProd rInt (rProd rInt (rProd rInt rInt)))))) [v5] r4.1.2, Ch.own (rSlice 27 (rProd rInt (rProd (rSlice 4 rBool) (rSlice 34 (rSlice 3 rInt))))) [v6] r4.2.1.1, Ch.own (rSlice 147 (rProd rInt (rProd (rSlice 197 (rProd rInt (rProd rInt (rProd rInt rInt)))) rInt))) [v7] r4.2.1.2, Ch.own (rSlice 107 (rProd rInt (rProd rInt rInt))) [v8] r4.2.2.1, F] := hsq33
        obtain ⟨v17, ea9⟩ : ∃ x, x = (vg (vs 2) [1]) := ⟨_, rfl⟩
        try rw [← ea9] at haq33
        try rw [← ea9] at hsq33
        clear ea9
        obtain ⟨v18, ea10⟩ : ∃ x, x = (vg (vs 2) [2]) := ⟨_, rfl⟩
        try rw [← ea10] at haq33
        try rw [← ea10] at hsq33
        clear ea10
        obtain ⟨v19, ea11⟩ : ∃ x, x = (vg (vs 2) [3]) := ⟨_, rfl⟩
        try rw [← ea11] at haq33
        try rw [← ea11] at hsq33
        clear ea11
        obtain ⟨v20, ea12⟩ : ∃ x, x = (vg (vs 2) [4]) := ⟨_, rfl⟩
        try rw [← ea12] at haq33
        try rw [← ea12] at hsq33
        clear ea12
        clear hf vs
        refine nrm ?_
        rcases two (r10) with hb4 | hb4
        · replace hm := ifFe hb4 hm
          refine cnd_true (b := !r10) haq33 rfl rfl (notT hb4) ?_
          refine wp_seq ?_
          refine wp_region_lit ?_
          refine seq_op0 haq33 hsq33 (opT_assign (v := .bool false) rfl rfl) rfl rfl ?_
          rintro u aq34 wq34 hf haq34 hsq34
          obtain rfl := Eq.symm hf
          clear haq33 hsq33 aq33 wq33
          refine wpList_nil ?_
          replace haq34 := haq34.pick' (L' := [(4, .bool false)]) ⟨rfl, trivial⟩
          refine nrm ?_
          refine wp_ret ?_
          refine thenR ?_
          obtain rfl := Option.some.inj hm
          exact ret_1 haq34 rfl (res_tmp haq34 rfl) ⟨_, rfl, rfl, _, Hp.le.rfl, St.sel (hsq34) 25 [24] rfl rfl⟩
        · replace hm := ifTe hb4 hm
          refine cnd_false (b := !r10) haq33 rfl rfl (notF hb4) ?_
          refine wp_skip ?_
          refine nrm ?_
          refine wp_seq ?_
          refine wp_seq ?_
          obtain ⟨r11, e11, hm⟩ := bind_some hm
          obtain ⟨r12, e12, hm⟩ := bind_some hm
          refine wp_draw (L := [(3, .pointer (some ⟨g2, 0, none⟩)), (8, .pointer (some ⟨g4, 0, none⟩)), (39, .bool (!r10))]) (C := [Ch.blk g3 [.int .i64 r6.1.1, v9, v10, v11, v12, .string r6.2.2.2] 78, Ch.blk g1 [.int .i64 p0aA.1.1, va0, va1, va2, va3, .string p0aA.2.2.2] 66, Ch.own (rSlice 45 (rProd (rSlice 3 rInt) (rSlice 126 (rProd rInt (rProd rInt (rProd rInt rInt)))))) [v9] r6.1.2, Ch.own (rSlice 27 (rProd rInt (rProd (rSlice 4 rBool) (rSlice 34 (rSlice 3 rInt))))) [v10] r6.2.1.1, Ch.own (rSlice 147 (rProd rInt (rProd (rSlice 197 (rProd rInt (rProd rInt (rProd rInt rInt)))) rInt))) [v11] r6.2.1.2, Ch.own (rSlice 107 (rProd rInt (rProd rInt rInt))) [v12] r6.2.2.1, Ch.own (rSlice 45 (rProd (rSlice 3 rInt) (rSlice 126 (rProd rInt (rProd rInt (rProd rInt rInt)))))) [v17] r9.1.2, Ch.own (rSlice 27 (rProd rInt (rProd (rSlice 4 rBool) (rSlice 34 (rSlice 3 rInt))))) [v18] r9.2.1.1, Ch.own (rSlice 147 (rProd rInt (rProd (rSlice 197 (rProd rInt (rProd rInt (rProd rInt rInt)))) rInt))) [v19] r9.2.1.2, Ch.own (rSlice 107 (rProd rInt (rProd rInt rInt))) [v20] r9.2.2.1, Ch.own (rSlice 45 (rProd (rSlice 3 rInt) (rSlice 126 (rProd rInt (rProd rInt (rProd rInt rInt)))))) [v1] r3.1.2, Ch.own (rSlice 27 (rProd rInt (rProd (rSlice 4 rBool) (rSlice 34 (rSlice 3 rInt))))) [v2] r3.2.1.1, Ch.own (rSlice 147 (rProd rInt (rProd (rSlice 197 (rProd rInt (rProd rInt (rProd rInt rInt)))) rInt))) [v3] r3.2.1.2, Ch.own (rSlice 107 (rProd rInt (rProd rInt rInt))) [v4] r3.2.2.1, Ch.own (rSlice 45 (rProd (rSlice 3 rInt) (rSlice 126 (rProd rInt (rProd rInt (rProd rInt rInt)))))) [v5] r4.1.2, Ch.own (rSlice 27 (rProd rInt (rProd (rSlice 4 rBool) (rSlice 34 (rSlice 3 rInt))))) [v6] r4.2.1.1, Ch.own (rSlice 147 (rProd rInt (rProd (rSlice 197 (rProd rInt (rProd rInt (rProd rInt rInt)))) rInt))) [v7] r4.2.1.2, Ch.own (rSlice 107 (rProd rInt (rProd rInt rInt))) [v8] r4.2.2.1, F]) { ops := [⟨[0], [], [], [0], fun | [xo0] => xo0 = .agg #[.int .i64 r7.1.1, v13, v14, v15, v16, .string r7.2.2.2] | _ => True, [(8, none)]⟩, ⟨[1], [], [], [1], fun | [xo1] => xo1 = .agg #[.int .i64 p1aB.1.1, va4, va5, va6, va7, .string p1aB.2.2.2] | _ => True, [(3, none)]⟩, ⟨[], [], [6, 7, 8, 9], [2], fun | [xo2] => xo2 = .agg #[.int .i64 r11.1.1, (vg xo2 [1]), (vg xo2 [2]), (vg xo2 [3]), (vg xo2 [4]), .string r11.2.2.2] ∧ Hd (vg xo2 [1]) (r11.1.2).length ∧ Hd (vg xo2 [2]) (r11.2.1.1).length ∧ Hd (vg xo2 [3]) (r11.2.1.2).length ∧ Hd (vg xo2 [4]) (r11.2.2.1).length | _ => True, [(41, some 1)]⟩, ⟨[2, 3, 4, 5, 6, 7, 8, 9], [], [], [3], fun | [xo3] => xo3 = .bool r12 | _ => True, [(40, some 0), (42, some 2)]⟩, ⟨[], [], [], [4], fun | [xo4] => xo4 = .bool (!r12) | _ => True, [(43, some 3)]⟩], res := [⟨[], fun _ => Ch.blk g4 [.int .i64 r7.1.1, v13, v14, v15, v16, .string r7.2.2.2] 78⟩, ⟨[], fun _ => Ch.blk g2 [.int .i64 p1aB.1.1, va4, va5, va6, va7, .string p1aB.2.2.2] 66⟩, ⟨[], fun _ => Ch.own (rSlice 45 (rProd (rSlice 3 rInt) (rSlice 126 (rProd rInt (rProd rInt (rProd rInt rInt)))))) [v13] r7.1.2⟩, ⟨[], fun _ => Ch.own (rSlice 27 (rProd rInt (rProd (rSlice 4 rBool) (rSlice 34 (rSlice 3 rInt))))) [v14] r7.2.1.1⟩, ⟨[], fun _ => Ch.own (rSlice 147 (rProd rInt (rProd (rSlice 197 (rProd rInt (rProd rInt (rProd rInt rInt)))) rInt))) [v15] r7.2.1.2⟩, ⟨[], fun _ => Ch.own (rSlice 107 (rProd rInt (rProd rInt rInt))) [v16] r7.2.2.1⟩, ⟨[2], fun | [xo2] => Ch.own (rSlice 45 (rProd (rSlice 3 rInt) (rSlice 126 (rProd rInt (rProd rInt (rProd rInt rInt)))))) [(vg xo2 [1])] r11.1.2 | _ => Ch.fr (fun _ => none) []⟩, ⟨[2], fun | [xo2] => Ch.own (rSlice 27 (rProd rInt (rProd (rSlice 4 rBool) (rSlice 34 (rSlice 3 rInt))))) [(vg xo2 [2])] r11.2.1.1 | _ => Ch.fr (fun _ => none) []⟩, ⟨[2], fun | [xo2] => Ch.own (rSlice 147 (rProd rInt (rProd (rSlice 197 (rProd rInt (rProd rInt (rProd rInt rInt)))) rInt))) [(vg xo2 [3])] r11.2.1.2 | _ => Ch.fr (fun _ => none) []⟩, ⟨[2], fun | [xo2] => Ch.own (rSlice 107 (rProd rInt (rProd rInt rInt))) [(vg xo2 [4])] r11.2.2.1 | _ => Ch.fr (fun _ => none) []⟩], base := [0, 1, 2, 3, 4, 5], pre := [[], [], [1], [0, 1, 2], [0, 1, 2, 3]], fin := [(44, some 4)], left := [0, 1, 2, 3, 4, 5, 6, 7, 8, 9] } (by kernel_rfl) haq33 hsq33 (perm_sel [14, 15, 10, 11, 12, 13, 0, 1, 2, 3, 4, 5, 6, 7, 8, 9, 16, 17, 18, 19, 20, 21, 22, 23, 24] (m := 25) rfl rfl) (by kernel_rfl) (by kernel_rfl) ?_ ?_
          · exact ⟨Plan.goal_run fun vs hf => ⟨wants_none rfl, OpT.conv (OpT.evs (ev' := evL [(8, .pointer (some ⟨g4, 0, none⟩))]) (opT_load_blk (g := g4) (off := 0) (E := 78) (l := [.int .i64 r7.1.1, v13, v14, v15, v16, .string r7.2.2.2]) (d := [.int .i64 r7.1.1, v13, v14, v15, v16, .string r7.2.2.2]) (u := .agg #[.int .i64 r7.1.1, v13, v14, v15, v16, .string r7.2.2.2]) ti78 rfl rfl rfl rfl rfl rfl) rfl [.tmp 8] rfl ⟨rfl, trivial⟩) rfl (fun _ h => Eq.trans h rfl) (fun _ => rfl)⟩, Plan.goal_run fun vs hf => ⟨wants_none rfl, OpT.conv (OpT.evs (ev' := evL [(3, .pointer (some ⟨g2, 0, none⟩))]) (opT_load_blk (g := g2) (off := 0) (E := 66) (l := [.int .i64 p1aB.1.1, va4, va5, va6, va7, .string p1aB.2.2.2]) (d := [.int .i64 p1aB.1.1, va4, va5, va6, va7, .string p1aB.2.2.2]) (u := .agg #[.int .i64 p1aB.1.1, va4, va5, va6, va7, .string p1aB.2.2.2]) ti66 rfl rfl rfl rfl rfl rfl) rfl [.tmp 3] rfl ⟨rfl, trivial⟩) rfl (fun _ h => Eq.trans h rfl) (fun _ => rfl)⟩, Plan.goal_run fun vs hf => ⟨wants_none rfl, OpT.conv (OpT.evs (ev' := evL [(41, .agg #[.int .i64 p1aB.1.1, va4, va5, va6, va7, .string p1aB.2.2.2])]) (OpT.hdk (E := 45) (R := rProd (rSlice 3 rInt) (rSlice 126 (rProd rInt (rProd rInt (rProd rInt rInt))))) (xs := r11.1.2) (fun v => vg v [1]) 0 (fun _ => rfl) (OpT.hdk (E := 27) (R := rProd rInt (rProd (rSlice 4 rBool) (rSlice 34 (rSlice 3 rInt)))) (xs := r11.2.1.1) (fun v => vg v [2]) 1 (fun _ => rfl) (OpT.hdk (E := 147) (R := rProd rInt (rProd (rSlice 197 (rProd rInt (rProd rInt (rProd rInt rInt)))) rInt)) (xs := r11.2.1.2) (fun v => vg v [3]) 2 (fun _ => rfl) (OpT.hdk (E := 107) (R := rProd rInt (rProd rInt rInt)) (xs := r11.2.2.1) (fun v => vg v [4]) 3 (fun _ => rfl) (opT_call (args := #[.agg #[.int .i64 p1aB.1.1, va4, va5, va6, va7, .string p1aB.2.2.2]]) (first := #[]) (captured := #[]) en41 rfl rfl rfl (c_w_toEngine ((p1aB.1.1, p1aB.1.2), (p1aB.2.1.1, p1aB.2.1.2), p1aB.2.2.1, p1aB.2.2.2) _ e11 va4 va5 va6 va7 ra4 ra5 ra6 ra7)))))) rfl [.func 41, .tmp 41] rfl ⟨rfl, (hf 1 (mb rfl)), trivial⟩) rfl (fun _ h => by obtain ⟨⟨⟨⟨h, k3⟩, k2⟩, k1⟩, k0⟩ := h; obtain ⟨_, _, _, _, rfl⟩ := h; exact ⟨rfl, k0, k1, k2, k3⟩) (fun _ => rfl)⟩, Plan.goal_run fun vs hf => ⟨wants_none rfl, OpT.conv (OpT.evs (ev' := evL [(40, .agg #[.int .i64 r7.1.1, v13, v14, v15, v16, .string r7.2.2.2]), (42, .agg #[.int .i64 r11.1.1, (vg (vs 2) [1]), (vg (vs 2) [2]), (vg (vs 2) [3]), (vg (vs 2) [4]), .string r11.2.2.2])]) (OpT.lend (ls := [Ch.own (rSlice 45 (rProd (rSlice 3 rInt) (rSlice 126 (rProd rInt (rProd rInt (rProd rInt rInt)))))) [v13] r7.1.2, Ch.own (rSlice 27 (rProd rInt (rProd (rSlice 4 rBool) (rSlice 34 (rSlice 3 rInt))))) [v14] r7.2.1.1, Ch.own (rSlice 147 (rProd rInt (rProd (rSlice 197 (rProd rInt (rProd rInt (rProd rInt rInt)))) rInt))) [v15] r7.2.1.2, Ch.own (rSlice 107 (rProd rInt (rProd rInt rInt))) [v16] r7.2.2.1, Ch.own (rSlice 45 (rProd (rSlice 3 rInt) (rSlice 126 (rProd rInt (rProd rInt (rProd rInt rInt)))))) [(vg (vs 2) [1])] r11.1.2, Ch.own (rSlice 27 (rProd rInt (rProd (rSlice 4 rBool) (rSlice 34 (rSlice 3 rInt))))) [(vg (vs 2) [2])] r11.2.1.1, Ch.own (rSlice 147 (rProd rInt (rProd (rSlice 197 (rProd rInt (rProd rInt (rProd rInt rInt)))) rInt))) [(vg (vs 2) [3])] r11.2.1.2, Ch.own (rSlice 107 (rProd rInt (rProd rInt rInt))) [(vg (vs 2) [4])] r11.2.2.1]) (gv := fun v => []) (fun _ => trivial) fun J hJ hl hb => opT_call (args := #[.agg #[.int .i64 r7.1.1, v13, v14, v15, v16, .string r7.2.2.2], .agg #[.int .i64 r11.1.1, (vg (vs 2) [1]), (vg (vs 2) [2]), (vg (vs 2) [3]), (vg (vs 2) [4]), .string r11.2.2.2]]) (first := #[]) (captured := #[]) en43 rfl rfl rfl (c_w_eqEngine ((r7.1.1, r7.1.2), (r7.2.1.1, r7.2.1.2), r7.2.2.1, r7.2.2.2) ((r11.1.1, r11.1.2), (r11.2.1.1, r11.2.1.2), r11.2.2.1, r11.2.2.2) _ e12 v13 v14 v15 v16 (vg (vs 2) [1]) (vg (vs 2) [2]) (vg (vs 2) [3]) (vg (vs 2) [4]) (hl _ _ _ (List.Mem.head _)) (hl _ _ _ (List.Mem.tail _ (List.Mem.head _))) (hl _ _ _ (List.Mem.tail _ (List.Mem.tail _ (List.Mem.head _)))) (hl _ _ _ (List.Mem.tail _ (List.Mem.tail _ (List.Mem.tail _ (List.Mem.head _))))) (hl _ _ _ (List.Mem.tail _ (List.Mem.tail _ (List.Mem.tail _ (List.Mem.tail _ (List.Mem.head _)))))) (hl _ _ _ (List.Mem.tail _ (List.Mem.tail _ (List.Mem.tail _ (List.Mem.tail _ (List.Mem.tail _ (List.Mem.head _))))))) (hl _ _ _ (List.Mem.tail _ (List.Mem.tail _ (List.Mem.tail _ (List.Mem.tail _ (List.Mem.tail _ (List.Mem.tail _ (List.Mem.head _)))))))) (hl _ _ _ (List.Mem.tail _ (List.Mem.tail _ (List.Mem.tail _ (List.Mem.tail _ (List.Mem.tail _ (List.Mem.tail _ (List.Mem.tail _ (List.Mem.head _))))))))))) rfl [.func 43, .tmp 40, .tmp 42] rfl ⟨rfl, (hf 0 (mb rfl)), (hf 2 (mb rfl)).1, trivial⟩) rfl (fun _ h => h) (fun _ => rfl)⟩, Plan.goal_run fun vs hf => ⟨wants_none rfl, OpT.conv (OpT.evs (ev' := evL [(43, .bool r12)]) (opT_not (b := r12) rfl rfl) rfl [.tmp 43] rfl ⟨(hf 3 (mb rfl)), trivial⟩) rfl (fun _ h => Eq.trans h rfl) (fun _ => rfl)⟩, trivial⟩
          intro vs aq35 wq35 hf haq35 hsq35
          clear haq33 hsq33
          replace haq35 := haq35.pick' (L' := [(44, .bool (!r12))]) ⟨(congrArg some (show _ = _ from (hf 4 (Nat.le_of_ble_eq_true rfl)))), trivial⟩
          replace hsq35 : St I w0 wq35 [Ch.blk g4 [.int .i64 r7.1.1, v13, v14, v15, v16, .string r7.2.2.2] 78, Ch.blk g2 [.int .i64 p1aB.1.1, va4, va5, va6, va7, .string p1aB.2.2.2] 66, Ch.own (rSlice 45 (rProd (rSlice 3 rInt) (rSlice 126 (rProd rInt (rProd rInt (rProd rInt rInt)))))) [v13] r7.1.2, Ch.own (rSlice 27 (rProd rInt (rProd (rSlice 4 rBool) (rSlice 34 (rSlice 3 rInt))))) [v14] r7.2.1.1, Ch.own (rSlice 147 (rProd rInt (rProd (rSlice 197 (rProd rInt (rProd rInt (rProd rInt rInt)))) rInt))) [v15] r7.2.1.2, Ch.own (rSlice 107 (rProd rInt (rProd rInt rInt))) [v16] r7.2.2.1, Ch.own (rSlice 45 (rProd (rSlice 3 rInt) (rSlice 126 (rProd rInt (rProd rInt (rProd rInt rInt)))))) [(vg (vs 2) [1])] r11.1.2, Ch.own (rSlice 27 (rProd rInt (rProd (rSlice 4 rBool) (rSlice 34 (rSlice 3 rInt))))) [(vg (vs 2) [2])] r11.2.1.1, Ch.own (rSlice 147 (rProd rInt (rProd (rSlice 197 (rProd rInt (rProd rInt (rProd rInt rInt)))) rInt))) [(vg (vs 2) [3])] r11.2.1.2, Ch.own (rSlice 107 (rProd rInt (rProd rInt rInt))) [(vg (vs 2) [4])] r11.2.2.1, Ch.blk g3 [.int .i64 r6.1.1, v9, v10, v11, v12, .string r6.2.2.2] 78, Ch.blk g1 [.int .i64 p0aA.1.1, va0, va1, va2, va3, .string p0aA.2.2.2] 66, Ch.own (rSlice 45 (rProd (rSlice 3 rInt) (rSlice 126 (rProd rInt (rProd rInt (rProd rInt rInt)))))) [v9] r6.1.2, Ch.own (rSlice 27 (rProd rInt (rProd (rSlice 4 rBool) (rSlice 34 (rSlice 3 rInt))))) [v10] r6.2.1.1, Ch.own (rSlice 147 (rProd rInt (rProd (rSlice 197 (rProd rInt (rProd rInt (rProd rInt rInt)))) rInt))) [v11] r6.2.1.2, Ch.own (rSlice 107 (rProd rInt (rProd rInt rInt))) [v12] r6.2.2.1, Ch.own (rSlice 45 (rProd (rSlice 3 rInt) (rSlice 126 (rProd rInt (rProd rInt (rProd rInt rInt)))))) [v17] r9.1.2, Ch.own (rSlice 27 (rProd rInt (rProd (rSlice 4 rBool) (rSlice 34 (rSlice 3 rInt))))) [v18] r9.2.1.1, Ch.own (rSlice 147 (rProd rInt (rProd (rSlice 197 (rProd rInt (rProd rInt (rProd rInt rInt)))) rInt))) [v19] r9.2.1.2, Ch.own (rSlice 107 (rProd rInt (rProd rInt rInt))) [v20] r9.2.2.1, Ch.own (rSlice 45 (rProd (rSlice 3 rInt) (rSlice 126 (rProd rInt (rProd rInt (rProd rInt rInt)))))) [v1] r3.1.2, Ch.own (rSlice 27 (rProd rInt (rProd (rSlice 4 rBool) (rSlice 34 (rSlice 3 rInt))))) [v2] r3.2.1.1, Ch.own (rSlice 147 (rProd rInt (rProd (rSlice 197 (rProd rInt (rProd rInt (rProd rInt rInt)))) rInt))) [v3] r3.2.1.2, Ch.own (rSlice 107 (rProd rInt (rProd rInt rInt))) [v4] r3.2.2.1, Ch.own (rSlice 45 (rProd (rSlice 3 rInt) (rSlice 126 (rProd rInt (rProd rInt (rProd rInt rInt)))))) [v5] r4.1.2, Ch.own (rSlice 27 (rProd rInt (rProd (rSlice 4 rBool) (rSlice 34 (rSlice 3 rInt))))) [v6] r4.2.1.1, Ch.own (rSlice 147 (rProd rInt (rProd (rSlice 197 (rProd rInt (rProd rInt (rProd rInt rInt)))) rInt))) [v7] r4.2.1.2, Ch.own (rSlice 107 (rProd rInt (rProd rInt rInt))) [v8] r4.2.2.1, F] := hsq35
          obtain ⟨v21, ea13⟩ : ∃ x, x = (vg (vs 2) [1]) := ⟨_, rfl⟩
          try rw [← ea13] at haq35
          try rw [← ea13] at hsq35
          clear ea13
          obtain ⟨v22, ea14⟩ : ∃ x, x = (vg (vs 2) [2]) := ⟨_, rfl⟩
          try rw [← ea14] at haq35
          try rw [← ea14] at hsq35
          clear ea14
          obtain ⟨v23, ea15⟩ : ∃ x, x = (vg (vs 2) [3]) := ⟨_, rfl⟩
          try rw [← ea15] at haq35
          try rw [← ea15] at hsq35
          clear ea15
          obtain ⟨v24, ea16⟩ : ∃ x, x = (vg (vs 2) [4]) := ⟨_, rfl⟩
          try rw [← ea16] at haq35
          try rw [← ea16] at hsq35
          clear ea16
          clear hf vs
          refine nrm ?_
          rcases two (r12) with hb5 | hb5
          · replace hm := ifFe hb5 hm
            refine cnd_true (b := !r12) haq35 rfl rfl (notT hb5) ?_
            refine wp_seq ?_
            refine wp_region_lit ?_
            refine seq_op0 haq35 hsq35 (opT_assign (v := .bool false) rfl rfl) rfl rfl ?_
            rintro u aq36 wq36 hf haq36 hsq36
            obtain rfl := Eq.symm hf
            clear haq35 hsq35 aq35 wq35
            refine wpList_nil ?_
            replace haq36 := haq36.pick' (L' := [(4, .bool false)]) ⟨rfl, trivial⟩
            refine nrm ?_
            refine wp_ret ?_
            refine thenR ?_
            obtain rfl := Option.some.inj hm
            exact ret_1 haq36 rfl (res_tmp haq36 rfl) ⟨_, rfl, rfl, _, Hp.le.rfl, St.sel (hsq36) 29 [28] rfl rfl⟩
          · replace hm := ifTe hb5 hm
            refine cnd_false (b := !r12) haq35 rfl rfl (notF hb5) ?_
            refine wp_skip ?_
            refine nrm ?_
            refine wp_seq ?_
            refine wp_region_lit ?_
            refine seq_op0 haq35 hsq35 (opT_assign (v := .bool true) rfl rfl) rfl rfl ?_
            rintro u aq37 wq37 hf haq37 hsq37
            obtain rfl := Eq.symm hf
            clear haq35 hsq35 aq35 wq35
            refine wpList_nil ?_
            replace haq37 := haq37.pick' (L' := [(4, .bool true)]) ⟨rfl, trivial⟩
            refine nrm ?_
            refine wp_ret ?_
            obtain rfl := Option.some.inj hm
            exact ret_1 haq37 rfl (res_tmp haq37 rfl) ⟨_, rfl, rfl, _, Hp.le.rfl, St.sel (hsq37) 29 [28] rfl rfl⟩
      · replace hm := ifTe hb3 hm
        refine cnd_true (b := r8 != r5) haq32 rfl rfl hb3 ?_
        refine wp_seq ?_
        refine wp_region_lit ?_
        refine seq_op0 haq32 hsq32 (opT_assign (v := .bool false) rfl rfl) rfl rfl ?_
        rintro u aq38 wq38 hf haq38 hsq38
        obtain rfl := Eq.symm hf
        clear haq32 hsq32 aq32 wq32
        refine wpList_nil ?_
        replace haq38 := haq38.pick' (L' := [(4, .bool false)]) ⟨rfl, trivial⟩
        refine nrm ?_
        refine wp_ret ?_
        refine thenR ?_
        obtain rfl := Option.some.inj hm
        exact ret_1 haq38 rfl (res_tmp haq38 rfl) ⟨_, rfl, rfl, _, Hp.le.rfl, St.sel (hsq38) 21 [20] rfl rfl⟩
    · replace hm := ifTe hb2 hm
      refine cnd_true (b := decide (r2 < 0)) haq16 rfl rfl hb2 ?_
      refine wp_seq ?_
      refine wp_region_lit ?_
      refine seq_op0 haq16 hsq16 (opT_assign (v := .bool true) rfl rfl) rfl rfl ?_
      rintro u aq39 wq39 hf haq39 hsq39
      obtain rfl := Eq.symm hf
      clear haq16 hsq16 aq16 wq16
      refine wpList_nil ?_
      replace haq39 := haq39.pick' (L' := [(4, .bool true)]) ⟨rfl, trivial⟩
      refine nrm ?_
      refine wp_ret ?_
      refine thenR ?_
      obtain rfl := Option.some.inj hm
      exact ret_1 haq39 rfl (res_tmp haq39 rfl) ⟨_, rfl, rfl, _, Hp.le.rfl, St.sel (hsq39) 3 [2] rfl rfl⟩
  · replace hm := ifTe hb1 hm
    refine cnd_true (b := decide (r1 < 0)) haq10 rfl rfl hb1 ?_
    refine wp_seq ?_
    refine wp_region_lit ?_
    refine seq_op0 haq10 hsq10 (opT_assign (v := .bool true) rfl rfl) rfl rfl ?_
    rintro u aq40 wq40 hf haq40 hsq40
    obtain rfl := Eq.symm hf
    clear haq10 hsq10 aq10 wq10
    refine wpList_nil ?_
    replace haq40 := haq40.pick' (L' := [(4, .bool true)]) ⟨rfl, trivial⟩
    refine nrm ?_
    refine wp_ret ?_
    refine thenR ?_
    obtain rfl := Option.some.inj hm
    exact ret_1 haq40 rfl (res_tmp haq40 rfl) ⟨_, rfl, rfl, _, Hp.le.rfl, St.sel (hsq40) 3 [2] rfl rfl⟩
end Go.Proofs.Ytcihbmdppgpmjaa.D
