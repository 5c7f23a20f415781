/- Printed by dec.py: models of functions and the walks that show them. -/
import Derived.Test.YtcihbmdppgpmjaaCw0_1
import Derived.Test.YtcihbmdppgpmjaaCw0_2
import Derived.Test.YtcihbmdppgpmjaaCw1_1
import Derived.Test.YtcihbmdppgpmjaaCw1_2
import Derived.Test.YtcihbmdppgpmjaaCw1_3
set_option linter.unusedVariables false
set_option linter.unusedSimpArgs false
set_option linter.unnecessarySimpa false
set_option maxRecDepth 100000
set_option maxHeartbeats 8000000
namespace Go.Proofs.Ytcihbmdppgpmjaa.D
open Go.RowKit
theorem c_s_l12Minimize (p0a : Int × (List Bool) × (List (List Int))) (r : Int × (List Bool) × (List (List Int))) (hm : m_s_l12Minimize p0a = some r) {I : Hp} {w0 : World} (va0 : Value) (va1 : Value) (ra0 : (rSlice 4 rBool).rd I [va0] p0a.2.1) (ra1 : (rSlice 34 (rSlice 3 rInt)).rd I [va1] p0a.2.2) : Con Try.prog 60 #[.agg #[.int .i64 p0a.1, va0, va1]] I w0 [] (fun v => ∃ h0 h1 : Value, v = .agg #[.int .i64 r.1, h0, h1]) (fun v => [Ch.own (rSlice 4 rBool) [vg v [1]] r.2.1, Ch.own (rSlice 34 (rSlice 3 rInt)) [vg v [2]] r.2.2]) := by
  refine con_of_wp (n := 9) [(0, .agg #[.int .i64 p0a.1, va0, va1])] Try.func60 rfl rfl (Nat.le_of_ble_eq_true rfl) (args_all ⟨rfl, trivial⟩) (fun F w a ha hs => ?_) (fun v => ⟨dp_own (dp_slice dp_bool), dp_own (dp_slice (dp_slice dp_int)), trivial⟩)
  unfold m_s_l12Minimize at hm
  refine wp_seq (wp_region_lit (rn ha hs (sop (opT_box (u := .agg #[.int .i64 p0a.1, va0, va1]) (l := [.int .i64 p0a.1, va0, va1]) rfl rfl rfl) (List.Perm.refl _) rfl rfl ?_)))
  rintro _ a1 w1 ⟨g1, rfl⟩ A1 (S1 : St I w0 w1 [Ch.blk g1 [.int .i64 p0a.1, va0, va1] 27, F])
  clear ha hs a w
  refine rn A1 S1 (sop (opT_alloc (l := [.int .i64 0, .slice none 0 0, .slice none 0 0]) tz27 rfl rfl) (List.Perm.refl _) rfl rfl ?_)
  rintro _ a2 w2 ⟨g2, rfl⟩ A2 (S2 : St I w0 w2 [Ch.blk g2 [.int .i64 0, .slice none 0 0, .slice none 0 0] 27, Ch.blk g1 [.int .i64 p0a.1, va0, va1] 27, F])
  clear A1 S1 a1 w1
  replace A2 := A2.pk (L' := [(1, .pointer (some ⟨g1, 0, none⟩)), (2, .pointer (some ⟨g2, 0, none⟩))]) rfl
  refine wpList_nil (nrm (wp_seq ?_))
  obtain ⟨r1, e1, hm⟩ := bind_some hm
  obtain ⟨r2, e2, hm⟩ := bind_some hm
  obtain ⟨r3, e3, hm⟩ := bind_some hm
  refine wp_draw (L := [(1, .pointer (some ⟨g1, 0, none⟩)), (2, .pointer (some ⟨g2, 0, none⟩))]) (C := [F]) { ops := [⟨[0], [], [], [0], fun | [xo0] => xo0 = .agg #[.int .i64 p0a.1, va0, va1] | _ => True, [(1, none)]⟩, ⟨[0], [], [], [1], fun | [xo1] => xo1 = .agg #[.int .i64 p0a.1, va0, va1] | _ => True, [(1, none)]⟩, ⟨[], [], [2], [2], fun | [xo2] => Hd xo2 (r1).length | _ => True, [(4, some 1)]⟩, ⟨[0], [], [], [3], fun | [xo3] => xo3 = .agg #[.int .i64 p0a.1, va0, va1] | _ => True, [(1, none)]⟩, ⟨[], [], [3], [4], fun | [xo4] => Hd xo4 (r2).length | _ => True, [(6, some 3)]⟩, ⟨[2, 3], [], [4, 5], [5], fun | [xo5] => xo5 = .agg #[.int .i64 r3.1, (vg xo5 [1]), (vg xo5 [2])] ∧ Hd (vg xo5 [1]) (r3.2.1).length ∧ Hd (vg xo5 [2]) (r3.2.2).length | _ => True, [(3, some 0), (5, some 2), (7, some 4)]⟩, ⟨[], [1], [6], [6], fun | [xo6] => True | _ => True, [(2, none), (8, some 5)]⟩], res := [⟨[], fun _ => Ch.blk g1 [.int .i64 p0a.1, va0, va1] 27⟩, ⟨[], fun _ => Ch.blk g2 [.int .i64 0, .slice none 0 0, .slice none 0 0] 27⟩, ⟨[2], fun | [xo2] => Ch.own (rSlice 3 rInt) [xo2] r1 | _ => Ch.fr (fun _ => none) []⟩, ⟨[4], fun | [xo4] => Ch.own (rSlice 4 rBool) [xo4] r2 | _ => Ch.fr (fun _ => none) []⟩, ⟨[5], fun | [xo5] => Ch.own (rSlice 4 rBool) [(vg xo5 [1])] r3.2.1 | _ => Ch.fr (fun _ => none) []⟩, ⟨[5], fun | [xo5] => Ch.own (rSlice 34 (rSlice 3 rInt)) [(vg xo5 [2])] r3.2.2 | _ => Ch.fr (fun _ => none) []⟩, ⟨[5], fun | [xo5] => Ch.blk g2 [.int .i64 r3.1, (vg xo5 [1]), (vg xo5 [2])] 27 | _ => Ch.fr (fun _ => none) []⟩], base := [0, 1], pre := [[], [], [1], [], [1, 2, 3], [0, 1, 2, 3, 4], [0, 1, 2, 3, 4, 5]], fin := [(2, none)], left := [0, 2, 3, 4, 5, 6] } (by kernel_rfl) A2 S2 (perm_sel [1, 0, 2] (m := 3) rfl rfl) (by kernel_rfl) (by kernel_rfl) ?_ ?_
  · exact ⟨Plan.goal_run fun vs hf => ⟨wants_none rfl, OpT.conv (OpT.evs (ev' := evL [(1, .pointer (some ⟨g1, 0, none⟩))]) (opT_load_blk (g := g1) (off := 0) (E := 27) (l := [.int .i64 p0a.1, va0, va1]) (d := [.int .i64 p0a.1, va0, va1]) (u := .agg #[.int .i64 p0a.1, va0, va1]) ti27 rfl rfl rfl rfl rfl rfl) rfl [.tmp 1] rfl ⟨rfl, trivial⟩) rfl (fun _ h => Eq.trans h rfl) (fun _ => rfl)⟩, Plan.goal_run fun vs hf => ⟨wants_none rfl, OpT.conv (OpT.evs (ev' := evL [(1, .pointer (some ⟨g1, 0, none⟩))]) (opT_load_blk (g := g1) (off := 0) (E := 27) (l := [.int .i64 p0a.1, va0, va1]) (d := [.int .i64 p0a.1, va0, va1]) (u := .agg #[.int .i64 p0a.1, va0, va1]) ti27 rfl rfl rfl rfl rfl rfl) rfl [.tmp 1] rfl ⟨rfl, trivial⟩) rfl (fun _ h => Eq.trans h rfl) (fun _ => rfl)⟩, Plan.goal_run fun vs hf => ⟨wants_none rfl, OpT.conv (OpT.evs (ev' := evL [(4, .agg #[.int .i64 p0a.1, va0, va1])]) (OpT.hdk (E := 3) (R := rInt) (xs := r1) (fun v => v) 0 (fun _ => rfl) (opT_call (args := #[.agg #[.int .i64 p0a.1, va0, va1]]) (first := #[]) (captured := #[]) en105 rfl rfl rfl (c_s_l12Classes (p0a.1, p0a.2.1, p0a.2.2) _ e1 va0 va1 ra0 ra1))) rfl [.func 105, .tmp 4] rfl ⟨rfl, (hf 1 (mb rfl)), trivial⟩) rfl (fun _ h => h.2) (fun _ => rfl)⟩, Plan.goal_run fun vs hf => ⟨wants_none rfl, OpT.conv (OpT.evs (ev' := evL [(1, .pointer (some ⟨g1, 0, none⟩))]) (opT_load_blk (g := g1) (off := 0) (E := 27) (l := [.int .i64 p0a.1, va0, va1]) (d := [.int .i64 p0a.1, va0, va1]) (u := .agg #[.int .i64 p0a.1, va0, va1]) ti27 rfl rfl rfl rfl rfl rfl) rfl [.tmp 1] rfl ⟨rfl, trivial⟩) rfl (fun _ h => Eq.trans h rfl) (fun _ => rfl)⟩, Plan.goal_run fun vs hf => ⟨wants_none rfl, OpT.conv (OpT.evs (ev' := evL [(6, .agg #[.int .i64 p0a.1, va0, va1])]) (OpT.hdk (E := 4) (R := rBool) (xs := r2) (fun v => v) 0 (fun _ => rfl) (opT_call (args := #[.agg #[.int .i64 p0a.1, va0, va1]]) (first := #[]) (captured := #[]) en48 rfl rfl rfl (c_s_l11Live (p0a.1, p0a.2.1, p0a.2.2) _ e2 va0 va1 ra0 ra1))) rfl [.func 48, .tmp 6] rfl ⟨rfl, (hf 3 (mb rfl)), trivial⟩) rfl (fun _ h => h.2) (fun _ => rfl)⟩, Plan.goal_run fun vs hf => ⟨wants_none rfl, OpT.conv (OpT.evs (ev' := evL [(3, .agg #[.int .i64 p0a.1, va0, va1]), (5, (vs 2)), (7, (vs 4))]) (OpT.comm (OpT.hdk (E := 4) (R := rBool) (xs := r3.2.1) (fun v => vg v [1]) 0 (fun _ => rfl) (OpT.hdk (E := 34) (R := rSlice 3 rInt) (xs := r3.2.2) (fun v => vg v [2]) 1 (fun _ => rfl) (OpT.lend (ls := [Ch.own (rSlice 3 rInt) [(vs 2)] r1, Ch.own (rSlice 4 rBool) [(vs 4)] r2]) (gv := fun v => [Ch.own (rSlice 4 rBool) [vg v [1]] r3.2.1, Ch.own (rSlice 34 (rSlice 3 rInt)) [vg v [2]] r3.2.2]) (fun _ => ⟨dp_own (dp_slice dp_bool), dp_own (dp_slice (dp_slice dp_int)), trivial⟩) fun J hJ hl hb => opT_call (args := #[.agg #[.int .i64 p0a.1, va0, va1], (vs 2), (vs 4)]) (first := #[]) (captured := #[]) en47 rfl rfl rfl (c_s_l11Number (p0a.1, p0a.2.1, p0a.2.2) r1 r2 _ e3 va0 va1 (vs 2) (vs 4) (Rep.rd_mono _ ra0 hJ) (Rep.rd_mono _ ra1 hJ) (hl _ _ _ (List.Mem.head _)) (hl _ _ _ (List.Mem.tail _ (List.Mem.head _)))))))) rfl [.func 47, .tmp 3, .tmp 5, .tmp 7] rfl ⟨rfl, (hf 0 (mb rfl)), rfl, rfl, trivial⟩) rfl (fun _ h => by obtain ⟨⟨h, k1⟩, k0⟩ := h; obtain ⟨_, _, rfl⟩ := h; exact ⟨rfl, k0, k1⟩) (fun _ => rfl)⟩, Plan.goal_run fun vs hf => ⟨wants_none rfl, OpT.conv (OpT.evs (ev' := evL [(2, .pointer (some ⟨g2, 0, none⟩)), (8, .agg #[.int .i64 r3.1, (vg (vs 5) [1]), (vg (vs 5) [2])])]) (opT_store_blk (g := g2) (off := 0) (l := [.int .i64 0, .slice none 0 0, .slice none 0 0]) (d := [.int .i64 r3.1, (vg (vs 5) [1]), (vg (vs 5) [2])]) (E := 27) (u := .agg #[.int .i64 r3.1, (vg (vs 5) [1]), (vg (vs 5) [2])]) ti27 rfl rfl rfl rfl rfl (allC rfl (allC (Hd.one (show Hd (vg (vs 5) [1]) (r3.2.1).length from (hf 5 (mb rfl)).2.1)) (allC (Hd.one (show Hd (vg (vs 5) [2]) (r3.2.2).length from (hf 5 (mb rfl)).2.2)) allN))) (Nat.le_of_ble_eq_true rfl)) rfl [.tmp 2, .tmp 8] rfl ⟨rfl, (hf 5 (mb rfl)).1, trivial⟩) rfl (fun _ _ => trivial) (fun _ => rfl)⟩, trivial⟩
  intro vs a3 w3 hf A3 S3
  clear A2 S2
  replace A3 := A3.pick' (L' := [(2, .pointer (some ⟨g2, 0, none⟩))]) ⟨rfl, trivial⟩
  replace S3 : St I w0 w3 [Ch.blk g1 [.int .i64 p0a.1, va0, va1] 27, Ch.own (rSlice 3 rInt) [(vs 2)] r1, Ch.own (rSlice 4 rBool) [(vs 4)] r2, Ch.own (rSlice 4 rBool) [(vg (vs 5) [1])] r3.2.1, Ch.own (rSlice 34 (rSlice 3 rInt)) [(vg (vs 5) [2])] r3.2.2, Ch.blk g2 [.int .i64 r3.1, (vg (vs 5) [1]), (vg (vs 5) [2])] 27, F] := S3
  obtain ⟨v1, ea1⟩ : ∃ x, x = (vs 2) := ⟨_, rfl⟩
  try rw [← ea1] at A3
  try rw [← ea1] at S3
  clear ea1
  obtain ⟨v2, ea2⟩ : ∃ x, x = (vs 4) := ⟨_, rfl⟩
  try rw [← ea2] at A3
  try rw [← ea2] at S3
  clear ea2
  obtain ⟨v3, ea3⟩ : ∃ x, x = (vg (vs 5) [1]) := ⟨_, rfl⟩
  try rw [← ea3] at A3
  try rw [← ea3] at S3
  clear ea3
  obtain ⟨v4, ea4⟩ : ∃ x, x = (vg (vs 5) [2]) := ⟨_, rfl⟩
  try rw [← ea4] at A3
  try rw [← ea4] at S3
  clear ea4
  clear hf vs
  refine nrm (wp_ret ?_)
  obtain rfl := Option.some.inj hm
  exact ret_1 A3 rfl (res_cell (g := g2) A3 rfl S3 5 rfl ti27 rfl) ⟨_, rfl, ⟨_, _, rfl⟩, _, Hp.le.rfl, St.sel (S3) 7 [3, 4, 6] rfl rfl⟩
theorem c_w_eqAutomaton (p0a : Int × (List Bool) × (List (List Int))) (p1b : Int × (List Bool) × (List (List Int))) (r : Bool) (hm : m_w_eqAutomaton p0a p1b = some r) {I : Hp} {w0 : World} (va0 : Value) (va1 : Value) (va2 : Value) (va3 : Value) (ra0 : (rSlice 4 rBool).rd I [va0] p0a.2.1) (ra1 : (rSlice 34 (rSlice 3 rInt)).rd I [va1] p0a.2.2) (ra2 : (rSlice 4 rBool).rd I [va2] p1b.2.1) (ra3 : (rSlice 34 (rSlice 3 rInt)).rd I [va3] p1b.2.2) : Con Try.prog 16 #[.agg #[.int .i64 p0a.1, va0, va1], .agg #[.int .i64 p1b.1, va2, va3]] I w0 [] (fun v => v = .bool r) (fun v => []) := by
  refine con_of_wp (n := 22) [(0, .agg #[.int .i64 p0a.1, va0, va1]), (1, .agg #[.int .i64 p1b.1, va2, va3])] Try.func16 rfl rfl (Nat.le_of_ble_eq_true rfl) (args_all ⟨rfl, rfl, trivial⟩) (fun F w a ha hs => ?_) (fun v => trivial)
  unfold m_w_eqAutomaton at hm
  refine wp_seq (wp_region_lit (rn ha hs (sop (opT_box (u := .agg #[.int .i64 p0a.1, va0, va1]) (l := [.int .i64 p0a.1, va0, va1]) rfl rfl rfl) (List.Perm.refl _) rfl rfl ?_)))
  rintro _ a1 w1 ⟨g1, rfl⟩ A1 (S1 : St I w0 w1 [Ch.blk g1 [.int .i64 p0a.1, va0, va1] 27, F])
  clear ha hs a w
  refine rn A1 S1 (sop (opT_box (u := .agg #[.int .i64 p1b.1, va2, va3]) (l := [.int .i64 p1b.1, va2, va3]) rfl rfl rfl) (List.Perm.refl _) rfl rfl ?_)
  rintro _ a2 w2 ⟨g2, rfl⟩ A2 (S2 : St I w0 w2 [Ch.blk g2 [.int .i64 p1b.1, va2, va3] 27, Ch.blk g1 [.int .i64 p0a.1, va0, va1] 27, F])
  clear A1 S1 a1 w1
  refine rn A2 S2 (sv (opT_assign (v := .bool false) rfl rfl) rfl rfl (enR (L' := [(2, .pointer (some ⟨g1, 0, none⟩)), (3, .pointer (some ⟨g2, 0, none⟩))]) rfl ?_))
  clear A2 S2 a2 w2;intro a3 w3 A3 S3
  refine nrm (wp_seq (wp_seq (wp_region_lit (rn A3 S3 (sv (opT_field_addr (g := g1) (b := 0) tf27_0 rfl rfl) rfl rfl (sop (opT_load_blk (g := g1) (off := 0) (E := 27) (l := [.int .i64 p0a.1, va0, va1]) (d := [.int .i64 p0a.1]) (u := .int .i64 p0a.1) ti3 rfl rfl rfl rfl rfl rfl) (perm_front (i := 1) rfl) rfl rfl ?_))))))
  rintro u a4 w4 hf A4 (S4 : St I w0 w4 [Ch.blk g1 [.int .i64 p0a.1, va0, va1] 27, Ch.blk g2 [.int .i64 p1b.1, va2, va3] 27, F])
  obtain rfl := Eq.symm hf
  clear A3 S3 a3 w3
  refine rn A4 S4 (sv (opT_field_addr (g := g2) (b := 0) tf27_0 rfl rfl) rfl rfl (sop (opT_load_blk (g := g2) (off := 0) (E := 27) (l := [.int .i64 p1b.1, va2, va3]) (d := [.int .i64 p1b.1]) (u := .int .i64 p1b.1) ti3 rfl rfl rfl rfl rfl rfl) (perm_front (i := 1) rfl) rfl rfl ?_))
  rintro u a5 w5 hf A5 (S5 : St I w0 w5 [Ch.blk g2 [.int .i64 p1b.1, va2, va3] 27, Ch.blk g1 [.int .i64 p0a.1, va0, va1] 27, F])
  obtain rfl := Eq.symm hf
  clear A4 S4 a4 w4
  refine rn A5 S5 (sv (opT_cmp (k := .i64) (m := p0a.1) (n := p1b.1) (c := p0a.1 != p1b.1) rfl rfl rfl rfl rfl) rfl rfl (enR (L' := [(2, .pointer (some ⟨g1, 0, none⟩)), (3, .pointer (some ⟨g2, 0, none⟩)), (9, .bool (p0a.1 != p1b.1))]) rfl ?_))
  clear A5 S5 a5 w5;intro a6 w6 A6 S6
  refine nrm ?_
  rcases two (p0a.1 != p1b.1) with hb1 | hb1
  · replace hm := ifFe hb1 hm
    refine cnd_false (b := p0a.1 != p1b.1) A6 rfl rfl hb1 ?_
    refine wp_skip (nrm (wp_seq (wp_seq (wp_region_lit (rn A6 S6 (sv (opT_field_addr (g := g1) (b := 0) tf27_1 rfl rfl) rfl rfl (sop (opT_load_blk (g := g1) (off := 1) (E := 27) (l := [.int .i64 p0a.1, va0, va1]) (d := [va0]) (u := va0) ti22 rfl rfl rfl rfl rfl rfl) (perm_front (i := 1) rfl) rfl rfl ?_)))))))
    rintro u a7 w7 hf A7 (S7 : St I w0 w7 [Ch.blk g1 [.int .i64 p0a.1, va0, va1] 27, Ch.blk g2 [.int .i64 p1b.1, va2, va3] 27, F])
    obtain rfl := Eq.symm hf
    clear A6 S6 a6 w6
    refine rn A7 S7 (sv (opT_field_addr (g := g2) (b := 0) tf27_1 rfl rfl) rfl rfl (sop (opT_load_blk (g := g2) (off := 1) (E := 27) (l := [.int .i64 p1b.1, va2, va3]) (d := [va2]) (u := va2) ti22 rfl rfl rfl rfl rfl rfl) (perm_front (i := 1) rfl) rfl rfl ?_))
    rintro u a8 w8 hf A8 (S8 : St I w0 w8 [Ch.blk g2 [.int .i64 p1b.1, va2, va3] 27, Ch.blk g1 [.int .i64 p0a.1, va0, va1] 27, F])
    obtain rfl := Eq.symm hf
    clear A7 S7 a7 w7
    obtain ⟨r1, e1, hm⟩ := bind_some hm
    refine rn A8 S8 (so0 (opT_call (args := #[va0, va2]) (first := #[]) (captured := #[]) en53 rfl rfl rfl (c_w_eqBoolS p0a.2.1 p1b.2.1 _ e1 va0 va2 ra0 ra2)) rfl rfl ?_)
    rintro u a9 w9 hf A9 S9
    obtain rfl := Eq.symm hf
    clear A8 S8 a8 w8
    refine rn A9 S9 (sv (opT_not (b := r1) rfl rfl) rfl rfl (enR (L' := [(2, .pointer (some ⟨g1, 0, none⟩)), (3, .pointer (some ⟨g2, 0, none⟩)), (15, .bool (!r1))]) rfl ?_))
    clear A9 S9 a9 w9;intro a10 w10 A10 S10
    refine nrm ?_
    rcases two (r1) with hb2 | hb2
    · replace hm := ifFe hb2 hm
      refine cnd_true (b := !r1) A10 rfl rfl (notT hb2) ?_
      refine wp_seq (wp_region_lit (rn A10 S10 (sv (opT_assign (v := .bool false) rfl rfl) rfl rfl (enR (L' := [(4, .bool false)]) rfl ?_))))
      clear A10 S10 a10 w10;intro a11 w11 A11 S11
      refine nrm (wp_ret (thenR ?_))
      obtain rfl := Option.some.inj hm
      exact ret_1 A11 rfl (res_tmp A11 rfl) ⟨_, rfl, rfl, _, Hp.le.rfl, St.sel (S11) 3 [2] rfl rfl⟩
    replace hm := ifTe hb2 hm
    refine cnd_false (b := !r1) A10 rfl rfl (notF hb2) ?_
    refine wp_skip (nrm (wp_seq (wp_seq (wp_region_lit (rn A10 S10 (sv (opT_field_addr (g := g1) (b := 0) tf27_2 rfl rfl) rfl rfl (sop (opT_load_blk (g := g1) (off := 2) (E := 27) (l := [.int .i64 p0a.1, va0, va1]) (d := [va1]) (u := va1) ti23 rfl rfl rfl rfl rfl rfl) (perm_front (i := 1) rfl) rfl rfl ?_)))))))
    rintro u a12 w12 hf A12 (S12 : St I w0 w12 [Ch.blk g1 [.int .i64 p0a.1, va0, va1] 27, Ch.blk g2 [.int .i64 p1b.1, va2, va3] 27, F])
    obtain rfl := Eq.symm hf
    clear A10 S10 a10 w10
    refine rn A12 S12 (sv (opT_field_addr (g := g2) (b := 0) tf27_2 rfl rfl) rfl rfl (sop (opT_load_blk (g := g2) (off := 2) (E := 27) (l := [.int .i64 p1b.1, va2, va3]) (d := [va3]) (u := va3) ti23 rfl rfl rfl rfl rfl rfl) (perm_front (i := 1) rfl) rfl rfl ?_))
    rintro u a13 w13 hf A13 (S13 : St I w0 w13 [Ch.blk g2 [.int .i64 p1b.1, va2, va3] 27, Ch.blk g1 [.int .i64 p0a.1, va0, va1] 27, F])
    obtain rfl := Eq.symm hf
    clear A12 S12 a12 w12
    obtain ⟨r2, e2, hm⟩ := bind_some hm
    refine rn A13 S13 (so0 (opT_call (args := #[va1, va3]) (first := #[]) (captured := #[]) en54 rfl rfl rfl (c_w_eqIntSS p0a.2.2 p1b.2.2 _ e2 va1 va3 ra1 ra3)) rfl rfl ?_)
    rintro u a14 w14 hf A14 S14
    obtain rfl := Eq.symm hf
    clear A13 S13 a13 w13
    refine rn A14 S14 (sv (opT_not (b := r2) rfl rfl) rfl rfl (enR (L' := [(21, .bool (!r2))]) rfl ?_))
    clear A14 S14 a14 w14;intro a15 w15 A15 S15
    refine nrm ?_
    rcases two (r2) with hb3 | hb3
    · replace hm := ifFe hb3 hm
      refine cnd_true (b := !r2) A15 rfl rfl (notT hb3) ?_
      refine wp_seq (wp_region_lit (rn A15 S15 (sv (opT_assign (v := .bool false) rfl rfl) rfl rfl (enR (L' := [(4, .bool false)]) rfl ?_))))
      clear A15 S15 a15 w15;intro a16 w16 A16 S16
      refine nrm (wp_ret (thenR ?_))
      obtain rfl := Option.some.inj hm
      exact ret_1 A16 rfl (res_tmp A16 rfl) ⟨_, rfl, rfl, _, Hp.le.rfl, St.sel (S16) 3 [2] rfl rfl⟩
    replace hm := ifTe hb3 hm
    refine cnd_false (b := !r2) A15 rfl rfl (notF hb3) ?_
    refine wp_skip (nrm (wp_seq (wp_region_lit (rn A15 S15 (sv (opT_assign (v := .bool true) rfl rfl) rfl rfl (enR (L' := [(4, .bool true)]) rfl ?_))))))
    clear A15 S15 a15 w15;intro a17 w17 A17 S17
    refine nrm (wp_ret ?_)
    obtain rfl := Option.some.inj hm
    exact ret_1 A17 rfl (res_tmp A17 rfl) ⟨_, rfl, rfl, _, Hp.le.rfl, St.sel (S17) 3 [2] rfl rfl⟩
  replace hm := ifTe hb1 hm
  refine cnd_true (b := p0a.1 != p1b.1) A6 rfl rfl hb1 ?_
  refine wp_seq (wp_region_lit (rn A6 S6 (sv (opT_assign (v := .bool false) rfl rfl) rfl rfl (enR (L' := [(4, .bool false)]) rfl ?_))))
  clear A6 S6 a6 w6;intro a18 w18 A18 S18
  refine nrm (wp_ret (thenR ?_))
  obtain rfl := Option.some.inj hm
  exact ret_1 A18 rfl (res_tmp A18 rfl) ⟨_, rfl, rfl, _, Hp.le.rfl, St.sel (S18) 3 [2] rfl rfl⟩
theorem c_w_markAutomaton (p0a : Int × (List Bool) × (List (List Int))) (p1k : Int) (r : Int × (List Bool) × (List (List Int))) (hm : m_w_markAutomaton p0a p1k = some r) {I : Hp} {w0 : World} (va0 : Value) (va1 : Value) : Con Try.prog 17 #[.agg #[.int .i64 p0a.1, va0, va1], .int .i64 p1k] I w0 [Ch.own (rSlice 4 rBool) [va0] p0a.2.1, Ch.own (rSlice 34 (rSlice 3 rInt)) [va1] p0a.2.2] (fun v => v = .int .i64 r.1) (fun v => [Ch.own (rSlice 4 rBool) [va0] r.2.1, Ch.own (rSlice 34 (rSlice 3 rInt)) [va1] r.2.2]) := by
  refine con_of_wp (n := 14) [(0, .agg #[.int .i64 p0a.1, va0, va1]), (1, .int .i64 p1k)] Try.func17 rfl rfl (Nat.le_of_ble_eq_true rfl) (args_all ⟨rfl, rfl, trivial⟩) (fun F w a ha hs => ?_) (fun v => ⟨dp_own (dp_slice dp_bool), dp_own (dp_slice (dp_slice dp_int)), trivial⟩)
  unfold m_w_markAutomaton at hm
  refine wp_seq (wp_region_lit (rn ha hs (sop (opT_box (u := .agg #[.int .i64 p0a.1, va0, va1]) (l := [.int .i64 p0a.1, va0, va1]) rfl rfl rfl) (List.Perm.refl _) rfl rfl ?_)))
  rintro _ a1 w1 ⟨g1, rfl⟩ A1 (S1 : St I w0 w1 [Ch.blk g1 [.int .i64 p0a.1, va0, va1] 27, Ch.own (rSlice 4 rBool) [va0] p0a.2.1, Ch.own (rSlice 34 (rSlice 3 rInt)) [va1] p0a.2.2, F])
  clear ha hs a w
  refine rn A1 S1 (sv (opT_assign (v := .int .i64 0) rfl rfl) rfl rfl (enR (L' := [(1, .int .i64 p1k), (2, .pointer (some ⟨g1, 0, none⟩))]) rfl ?_))
  clear A1 S1 a1 w1;intro a2 w2 A2 S2
  refine nrm (wp_seq (wp_region_lit (rn A2 S2 (sv (opT_field_addr (g := g1) (b := 0) tf27_1 rfl rfl) rfl rfl (sop (opT_load_blk (g := g1) (off := 1) (E := 27) (l := [.int .i64 p0a.1, va0, va1]) (d := [va0]) (u := va0) ti22 rfl rfl rfl rfl rfl rfl) (perm_front (i := 0) rfl) rfl rfl ?_)))))
  rintro u a3 w3 hf A3 (S3 : St I w0 w3 [Ch.blk g1 [.int .i64 p0a.1, va0, va1] 27, Ch.own (rSlice 4 rBool) [va0] p0a.2.1, Ch.own (rSlice 34 (rSlice 3 rInt)) [va1] p0a.2.2, F])
  obtain rfl := Eq.symm hf
  clear A2 S2 a2 w2
  refine rn A3 S3 (sv (opT_move (v := .int .i64 p1k) rfl rfl) rfl rfl ?_)
  obtain ⟨r1, e1, hm⟩ := bind_some hm
  refine sop (opT_call (args := #[va0, .int .i64 p1k]) (first := #[]) (captured := #[]) en55 rfl rfl rfl (c_w_markBoolS p0a.2.1 p1k _ e1 va0)) (perm_front (i := 1) rfl) rfl rfl ?_
  rintro u a4 w4 hf A4 (S4 : St I w0 w4 [Ch.own (rSlice 4 rBool) [va0] r1.2, Ch.blk g1 [.int .i64 p0a.1, va0, va1] 27, Ch.own (rSlice 34 (rSlice 3 rInt)) [va1] p0a.2.2, F])
  obtain rfl := Eq.symm hf
  clear A3 S3 a3 w3
  refine rn A4 S4 (sv (opT_assign (v := .int .i64 r1.1) rfl rfl) rfl rfl (enR (L' := [(1, .int .i64 r1.1), (2, .pointer (some ⟨g1, 0, none⟩))]) rfl ?_))
  clear A4 S4 a4 w4;intro a5 w5 A5 S5
  refine nrm (wp_seq (wp_region_lit (rn A5 S5 (sv (opT_field_addr (g := g1) (b := 0) tf27_2 rfl rfl) rfl rfl (sop (opT_load_blk (g := g1) (off := 2) (E := 27) (l := [.int .i64 p0a.1, va0, va1]) (d := [va1]) (u := va1) ti23 rfl rfl rfl rfl rfl rfl) (perm_front (i := 1) rfl) rfl rfl ?_)))))
  rintro u a6 w6 hf A6 (S6 : St I w0 w6 [Ch.blk g1 [.int .i64 p0a.1, va0, va1] 27, Ch.own (rSlice 4 rBool) [va0] r1.2, Ch.own (rSlice 34 (rSlice 3 rInt)) [va1] p0a.2.2, F])
  obtain rfl := Eq.symm hf
  clear A5 S5 a5 w5
  refine rn A6 S6 (sv (opT_move (v := .int .i64 r1.1) rfl rfl) rfl rfl ?_)
  obtain ⟨r2, e2, hm⟩ := bind_some hm
  refine sop (opT_call (args := #[va1, .int .i64 r1.1]) (first := #[]) (captured := #[]) en56 rfl rfl rfl (c_w_markIntSS p0a.2.2 r1.1 _ e2 va1)) (perm_front (i := 2) rfl) rfl rfl ?_
  rintro u a7 w7 hf A7 (S7 : St I w0 w7 [Ch.own (rSlice 34 (rSlice 3 rInt)) [va1] r2.2, Ch.blk g1 [.int .i64 p0a.1, va0, va1] 27, Ch.own (rSlice 4 rBool) [va0] r1.2, F])
  obtain rfl := Eq.symm hf
  clear A6 S6 a6 w6
  refine rn A7 S7 (sv (opT_assign (v := .int .i64 r2.1) rfl rfl) rfl rfl (enR (L' := [(1, .int .i64 r2.1)]) rfl ?_))
  clear A7 S7 a7 w7;intro a8 w8 A8 S8
  refine nrm (wp_seq (wp_region_lit (rn A8 S8 (sv (opT_move (v := .int .i64 r2.1) rfl rfl) rfl rfl (sv (opT_assign (v := .int .i64 r2.1) rfl rfl) rfl rfl (enR (L' := [(4, .int .i64 r2.1)]) rfl ?_))))))
  clear A8 S8 a8 w8;intro a9 w9 A9 S9
  refine nrm (wp_ret ?_)
  obtain rfl := Option.some.inj hm
  exact ret_1 A9 rfl (res_tmp A9 rfl) ⟨_, rfl, rfl, _, Hp.le.rfl, St.sel (S9) 4 [2, 0, 3] rfl rfl⟩
end Go.Proofs.Ytcihbmdppgpmjaa.D
