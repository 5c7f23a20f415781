/- Printed by dec.py: models of functions and the walks that show them. -/
import Derived.Test.YtcihbmdppgpmjaaCw0_1
import Derived.Test.YtcihbmdppgpmjaaCw6_0
set_option linter.unusedVariables false
set_option linter.unusedSimpArgs false
set_option linter.unnecessarySimpa false
set_option maxRecDepth 100000
set_option maxHeartbeats 8000000
namespace Go.Proofs.Ytcihbmdppgpmjaa.D
open Go.RowKit
theorem c_i_ComplementAutomaton (p0a : Int × (List Bool) × (List (List Int))) (r : (Int × (List Bool) × (List (List Int))) × Bool) (hm : m_i_ComplementAutomaton p0a = some r) {I : Hp} {w0 : World} (va0 : Value) (va1 : Value) (ra0 : (rSlice 4 rBool).rd I [va0] p0a.2.1) (ra1 : (rSlice 34 (rSlice 3 rInt)).rd I [va1] p0a.2.2) : Con Try.prog 38 #[.agg #[.int .i64 p0a.1, va0, va1]] I w0 [] (fun v => ∃ h0 h1 : Value, v = .tuple #[.agg #[.int .i64 r.1.1, h0, h1], .bool r.2]) (fun v => [Ch.own (rSlice 4 rBool) [vg v [0, 1]] r.1.2.1, Ch.own (rSlice 34 (rSlice 3 rInt)) [vg v [0, 2]] r.1.2.2]) := by
  refine con_of_wp (n := 9) [(0, .agg #[.int .i64 p0a.1, va0, va1])] Try.func38 rfl rfl (Nat.le_of_ble_eq_true rfl) (args_all ⟨rfl, trivial⟩) (fun F w a ha hs => ?_) (fun v => ⟨dp_own (dp_slice dp_bool), dp_own (dp_slice (dp_slice dp_int)), trivial⟩)
  unfold m_i_ComplementAutomaton at hm
  refine wp_seq (wp_region_lit (rn ha hs (sop (opT_box (u := .agg #[.int .i64 p0a.1, va0, va1]) (l := [.int .i64 p0a.1, va0, va1]) rfl rfl rfl) (List.Perm.refl _) rfl rfl ?_)))
  rintro _ a1 w1 ⟨g1, rfl⟩ A1 (S1 : St I w0 w1 [Ch.blk g1 [.int .i64 p0a.1, va0, va1] 27, F])
  clear ha hs a w
  refine rn A1 S1 (sop (opT_alloc (l := [.int .i64 0, .slice none 0 0, .slice none 0 0]) tz27 rfl rfl) (List.Perm.refl _) rfl rfl ?_)
  rintro _ a2 w2 ⟨g2, rfl⟩ A2 (S2 : St I w0 w2 [Ch.blk g2 [.int .i64 0, .slice none 0 0, .slice none 0 0] 27, Ch.blk g1 [.int .i64 p0a.1, va0, va1] 27, F])
  clear A1 S1 a1 w1
  refine rn A2 S2 (sv (opT_assign (v := .bool false) rfl rfl) rfl rfl (enR (L' := [(1, .pointer (some ⟨g1, 0, none⟩)), (2, .pointer (some ⟨g2, 0, none⟩))]) rfl ?_))
  clear A2 S2 a2 w2;intro a3 w3 A3 S3
  refine nrm (wp_seq (wp_region_lit (rn A3 S3 (sop (opT_load_blk (g := g1) (off := 0) (E := 27) (l := [.int .i64 p0a.1, va0, va1]) (d := [.int .i64 p0a.1, va0, va1]) (u := .agg #[.int .i64 p0a.1, va0, va1]) ti27 rfl rfl rfl rfl rfl rfl) (perm_front (i := 1) rfl) rfl rfl ?_))))
  rintro u a4 w4 hf A4 (S4 : St I w0 w4 [Ch.blk g1 [.int .i64 p0a.1, va0, va1] 27, Ch.blk g2 [.int .i64 0, .slice none 0 0, .slice none 0 0] 27, F])
  obtain rfl := Eq.symm hf
  clear A3 S3 a3 w3
  refine rn A4 S4 (sop (opT_load_blk (g := g1) (off := 0) (E := 27) (l := [.int .i64 p0a.1, va0, va1]) (d := [.int .i64 p0a.1, va0, va1]) (u := .agg #[.int .i64 p0a.1, va0, va1]) ti27 rfl rfl rfl rfl rfl rfl) (perm_front (i := 0) rfl) rfl rfl ?_)
  rintro u a5 w5 hf A5 (S5 : St I w0 w5 [Ch.blk g1 [.int .i64 p0a.1, va0, va1] 27, Ch.blk g2 [.int .i64 0, .slice none 0 0, .slice none 0 0] 27, F])
  obtain rfl := Eq.symm hf
  clear A4 S4 a4 w4
  obtain ⟨r1, e1, hm⟩ := bind_some hm
  refine rn A5 S5 (sop (opT_call (args := #[.agg #[.int .i64 p0a.1, va0, va1], .agg #[.int .i64 p0a.1, va0, va1], .func (.func 77) #[] #[]]) (first := #[]) (captured := #[]) en72 rfl rfl rfl (c_i_combine (p0a.1, p0a.2.1, p0a.2.2) (p0a.1, p0a.2.1, p0a.2.2) (fun a0 a1 => m_i_ComplementAutomaton_1 a0 a1) _ e1 va0 va1 va0 va1 (.func (.func 77) #[] #[]) ra0 ra1 ra0 ra1 ⟨isFn, fun J1 hJ1 b1_0 b1_1 r hm   => ⟨77, #[], #[], rfl, en77, c_i_ComplementAutomaton_1 b1_0 b1_1 _ hm  ⟩⟩)) (List.Perm.refl _) rfl rfl ?_)
  rintro u a6 w6 ⟨v1, v2, rfl⟩ A6 (S6 : St I w0 w6 [Ch.own (rSlice 4 rBool) [v1] r1.1.2.1, Ch.own (rSlice 34 (rSlice 3 rInt)) [v2] r1.1.2.2, Ch.blk g1 [.int .i64 p0a.1, va0, va1] 27, Ch.blk g2 [.int .i64 0, .slice none 0 0, .slice none 0 0] 27, F])
  clear A5 S5 a5 w5
  refine rn A6 S6 (sv (opT_extract (vs := #[.agg #[.int .i64 r1.1.1, v1, v2], .bool r1.2]) (v := .agg #[.int .i64 r1.1.1, v1, v2]) rfl rfl rfl) rfl rfl (sv (opT_extract (vs := #[.agg #[.int .i64 r1.1.1, v1, v2], .bool r1.2]) (v := .bool r1.2) rfl rfl rfl) rfl rfl (sop (opT_store_blk (g := g2) (off := 0) (l := [.int .i64 0, .slice none 0 0, .slice none 0 0]) (d := [.int .i64 r1.1.1, v1, v2]) (E := 27) (u := .agg #[.int .i64 r1.1.1, v1, v2]) ti27 rfl rfl rfl rfl rfl (allC rfl (allC (Hd.one (St.hd S6 0 rfl).1) (allC (Hd.one (St.hd S6 1 rfl).1) allN))) (Nat.le_of_ble_eq_true rfl)) (perm_front (i := 3) rfl) rfl rfl ?_)))
  rintro _ a7 w7 - A7 (S7 : St I w0 w7 [Ch.blk g2 [.int .i64 r1.1.1, v1, v2] 27, Ch.own (rSlice 4 rBool) [v1] r1.1.2.1, Ch.own (rSlice 34 (rSlice 3 rInt)) [v2] r1.1.2.2, Ch.blk g1 [.int .i64 p0a.1, va0, va1] 27, F])
  clear A6 S6 a6 w6
  refine rn A7 S7 (sv (opT_assign (v := .bool r1.2) rfl rfl) rfl rfl (enR (L' := [(2, .pointer (some ⟨g2, 0, none⟩)), (3, .bool r1.2)]) rfl ?_))
  clear A7 S7 a7 w7;intro a8 w8 A8 S8
  refine nrm (wp_ret ?_)
  obtain rfl := Option.some.inj hm
  exact ret_2 A8 rfl (res_cell (g := g2) A8 rfl S8 0 rfl ti27 rfl) (res_tmp A8 rfl) ⟨_, rfl, ⟨_, _, rfl⟩, _, Hp.le.rfl, St.sel (S8) 5 [1, 2, 4] rfl rfl⟩
end Go.Proofs.Ytcihbmdppgpmjaa.D
