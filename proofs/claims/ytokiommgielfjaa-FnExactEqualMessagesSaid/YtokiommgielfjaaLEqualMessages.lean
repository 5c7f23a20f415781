/- FnExactEqualMessages: for every input the law returns true and changes nothing that was there: the program's EqualMessages answers as the reference's does. No condition. (Written by a program of ours, genlaw.py, over the contracts of the two functions.) -/
import Derived.Test.YtokiommgielfjaaEqm
import Derived.Test.YtokiommgielfjaaK
import Derived.Test.YtokiommgielfjaaLaw
import Derived.Test.YtokiommgielfjaaOpen
set_option linter.unusedVariables false
set_option linter.unusedSimpArgs false
namespace Go.Proofs.Ytokiommgielfjaa
open Go.ChangeShapes Go.WideShapes Go.ChangeAt Go.RowKit

set_option maxHeartbeats 4000000 in
theorem lawEqualMessages_any (v0_0 v0_1 v1_0 v1_1 : Value) (x0 : DMessage) (x1 : DMessage) (w : World) (o0_0 : I64 (x0.1)) (h0_0 : rPairS.rd w.heap.size w [v0_0] x0.2.2.1) (h0_1 : rPairS.rd w.heap.size w [v0_1] x0.2.2.2) (o1_0 : I64 (x1.1)) (h1_0 : rPairS.rd w.heap.size w [v1_0] x1.2.2.1) (h1_1 : rPairS.rd w.heap.size w [v1_1] x1.2.2.2) :
    Calls Try.prog 4 #[.agg #[.int .i64 x0.1, .bool x0.2.1, v0_0, v0_1], .agg #[.int .i64 x1.1, .bool x1.2.1, v1_0, v1_1]] w fun e w' => e = .returned (.bool true) ∧ St w w' [] := by
  have S0 := hid (show St w (((w).alloc (.cells #[.int .i64 x0.1, .bool x0.2.1, v0_0, v0_1] 28)).alloc (.cells #[.int .i64 x1.1, .bool x1.2.1, v1_0, v1_1] 28)) [Ch.blk (w.heap.size + 1) [.int .i64 x1.1, .bool x1.2.1, v1_0, v1_1] 28, Ch.blk (w.heap.size) [.int .i64 x0.1, .bool x0.2.1, v0_0, v0_1] 28] from (St.init w).alloc2 _ _ _ _)
  go_enter Try.func4, Try.ntmps4
  go_wp2_with fail
  refine (szMessage_any v0_0 v0_1 x0 (1048576) _ (S0.out.arg h0_0) (S0.out.arg h0_1) (by omega) (by omega)).mono ?_
  rintro e w1 ⟨rfl, hs⟩
  have S1 := hid (show St w w1 [Ch.blk (w.heap.size + 1) [.int .i64 x1.1, .bool x1.2.1, v1_0, v1_1] 28, Ch.blk (w.heap.size) [.int .i64 x0.1, .bool x0.2.1, v0_0, v0_1] 28] from S0.out.call hs)
  clear hs
  have c1_0 := S1.out.cell 0 rfl; have z1_0 := (S1.out.heap 0 rfl).2.2
  have c1_1 := S1.out.cell 1 rfl; have z1_1 := (S1.out.heap 1 rfl).2.2
  by_cases hn : lft (1048576) (szMessage x0) < 0
  · go_wp2
    go_ret
    exact ⟨rfl, S1.out.drop⟩
  have hp1 : 0 ≤ lft (1048576) (szMessage x0) := by omega
  have Nx0 := hid (show szMessage x0 ≤ 1048576 from by have h1 := le_of_lft hp1; have h2 : (1048576 : Int) ≤ 1048576 := (by omega); omega)
  have hq1 : lft (1048576) (szMessage x0) ≤ 1048576 := lft_le (by omega)
  generalize lft (1048576) (szMessage x0) = L1 at hp1 hq1 hn ⊢; clear hn
  have HP1 := hid hp1; have HQ1 := hid hq1; clear hq1
  go_wp2_with fail
  refine (szMessage_any v1_0 v1_1 x1 (L1) _ (S1.out.arg h1_0) (S1.out.arg h1_1) HP1.out HQ1.out).mono ?_
  rintro e w2 ⟨rfl, hs⟩
  have S2 := hid (show St w w2 [Ch.blk (w.heap.size + 1) [.int .i64 x1.1, .bool x1.2.1, v1_0, v1_1] 28, Ch.blk (w.heap.size) [.int .i64 x0.1, .bool x0.2.1, v0_0, v0_1] 28] from S1.out.call hs)
  clear hs
  clear c1_0 z1_0 c1_1 z1_1
  have c2_0 := S2.out.cell 0 rfl; have z2_0 := (S2.out.heap 0 rfl).2.2
  have c2_1 := S2.out.cell 1 rfl; have z2_1 := (S2.out.heap 1 rfl).2.2
  by_cases hn : lft (L1) (szMessage x1) < 0
  · go_wp2
    go_ret
    exact ⟨rfl, S2.out.drop⟩
  have hp2 : 0 ≤ lft (L1) (szMessage x1) := by omega
  have Nx1 := hid (show szMessage x1 ≤ 1048576 from by have h1 := le_of_lft hp2; have h2 : (L1 : Int) ≤ 1048576 := HQ1.out; omega)
  have hq2 : lft (L1) (szMessage x1) ≤ 1048576 := lft_le HQ1.out
  generalize lft (L1) (szMessage x1) = L2 at hp2 hq2 hn ⊢; clear hn
  have HP2 := hid hp2; have HQ2 := hid hq2; clear hq2
  go_wp2_with fail
  have HK := hid (show ∀ W, St w W [Ch.blk (w.heap.size + 1) [.int .i64 x1.1, .bool x1.2.1, v1_0, v1_1] 28, Ch.blk (w.heap.size) [.int .i64 x0.1, .bool x0.2.1, v0_0, v0_1] 28] → (fun w' => St w w' [Ch.blk (w.heap.size + 1) [.int .i64 x1.1, .bool x1.2.1, v1_0, v1_1] 28, Ch.blk (w.heap.size) [.int .i64 x0.1, .bool x0.2.1, v0_0, v0_1] 28] ∧ (∀ j, w'.cell? ⟨w.heap.size + 1, j, none⟩ = ([.int .i64 x1.1, .bool x1.2.1, v1_0, v1_1] : List Value)[j]?) ∧ (∀ j, w'.cell? ⟨w.heap.size, j, none⟩ = ([.int .i64 x0.1, .bool x0.2.1, v0_0, v0_1] : List Value)[j]?)) W from fun W h => ⟨h, h.cell 0 rfl, h.cell 1 rfl⟩)
  go_region_held3 (fun w' => St w w' [Ch.blk (w.heap.size + 1) [.int .i64 x1.1, .bool x1.2.1, v1_0, v1_1] 28, Ch.blk (w.heap.size) [.int .i64 x0.1, .bool x0.2.1, v0_0, v0_1] 28] ∧ (∀ j, w'.cell? ⟨w.heap.size + 1, j, none⟩ = ([.int .i64 x1.1, .bool x1.2.1, v1_0, v1_1] : List Value)[j]?) ∧ (∀ j, w'.cell? ⟨w.heap.size, j, none⟩ = ([.int .i64 x0.1, .bool x0.2.1, v0_0, v0_1] : List Value)[j]?)) (first | exact HK.out _ S2.out.drew | exact HK.out _ (held_any (by assumption) (by assumption))) (first | (go_at_call_of 10 (v0_0); refine (toMessage_any v0_0 v0_1 x0 _ o0_0 ?_ ?_ Nx0.out).mono ?_; exact arg_any (by assumption) h0_0; exact arg_any (by assumption) h0_1; rintro e w3 ⟨t1_0, t1_1, rfl, ht1⟩) | (go_at_call_of 10 (v1_0); refine (toMessage_any v1_0 v1_1 x1 _ o1_0 ?_ ?_ Nx1.out).mono ?_; exact arg_any (by assumption) h1_0; exact arg_any (by assumption) h1_1; rintro e w4 ⟨t2_0, t2_1, rfl, ht2⟩) | (go_at_call 9; refine (sEqualMessages_any t1_0 t1_1 t2_0 t2_1 x0 x1 _ o0_0 o1_0 ?_ ?_ ?_ ?_ Nx0.out Nx1.out).mono ?_; exact ht2.arg (ht1.rd 0 rfl); exact ht2.arg (ht1.rd 1 rfl); exact ht2.rd 0 rfl; exact ht2.rd 1 rfl; rintro e w5 ⟨rfl, hr9⟩))
  clear HK
  have SA := hid (show St w w5 [Ch.blk (w.heap.size + 1) [.int .i64 x1.1, .bool x1.2.1, v1_0, v1_1] 28, Ch.blk (w.heap.size) [.int .i64 x0.1, .bool x0.2.1, v0_0, v0_1] 28] from And.left (by assumption))
  clear ht1 ht2
  have S3 := SA; clear SA hr9
  clear c2_0 z2_0 c2_1 z2_1
  have c3_0 := S3.out.cell 0 rfl; have z3_0 := (S3.out.heap 0 rfl).2.2
  have c3_1 := S3.out.cell 1 rfl; have z3_1 := (S3.out.heap 1 rfl).2.2
  go_wp2_with fail
  refine (toMessage_any v0_0 v0_1 x0 _ o0_0 (S3.out.arg h0_0) (S3.out.arg h0_1) Nx0.out).mono ?_
  rintro e w6 ⟨x0n0, x0n1, rfl, hs⟩
  have S4 := hid (show St w w6 [Ch.own rPairS [x0n0] x0.2.2.1, Ch.own rPairS [x0n1] x0.2.2.2, Ch.blk (w.heap.size + 1) [.int .i64 x1.1, .bool x1.2.1, v1_0, v1_1] 28, Ch.blk (w.heap.size) [.int .i64 x0.1, .bool x0.2.1, v0_0, v0_1] 28] from S3.out.call hs)
  clear hs
  obtain ⟨a_x0n0, p_x0n0, rfl⟩ := S4.out.hdr (R := rPair) 0 rfl
  obtain ⟨a_x0n1, p_x0n1, rfl⟩ := S4.out.hdr (R := rPair) 1 rfl
  clear c3_0 z3_0 c3_1 z3_1
  have c4_0 := S4.out.cell 2 rfl; have z4_0 := (S4.out.heap 2 rfl).2.2
  have c4_1 := S4.out.cell 3 rfl; have z4_1 := (S4.out.heap 3 rfl).2.2
  go_wp2_with fail
  have S5 := hid (show St w (w6.alloc (.cells #[.int .i64 x0.1, .bool x0.2.1, (.slice a_x0n0 x0.2.2.1.length p_x0n0), (.slice a_x0n1 x0.2.2.2.length p_x0n1)] 35)) [Ch.blk (w6.heap.size) [.int .i64 x0.1, .bool x0.2.1, (.slice a_x0n0 x0.2.2.1.length p_x0n0), (.slice a_x0n1 x0.2.2.2.length p_x0n1)] 35, Ch.own rPairS [(.slice a_x0n0 x0.2.2.1.length p_x0n0)] x0.2.2.1, Ch.own rPairS [(.slice a_x0n1 x0.2.2.2.length p_x0n1)] x0.2.2.2, Ch.blk (w.heap.size + 1) [.int .i64 x1.1, .bool x1.2.1, v1_0, v1_1] 28, Ch.blk (w.heap.size) [.int .i64 x0.1, .bool x0.2.1, v0_0, v0_1] 28] from S4.out.alloc [.int .i64 x0.1, .bool x0.2.1, (.slice a_x0n0 x0.2.2.1.length p_x0n0), (.slice a_x0n1 x0.2.2.2.length p_x0n1)] 35)
  refine (toMessage_any v1_0 v1_1 x1 _ o1_0 (S5.out.arg h1_0) (S5.out.arg h1_1) Nx1.out).mono ?_
  rintro e w7 ⟨x1n0, x1n1, rfl, hs⟩
  have S6 := hid (show St w w7 [Ch.own rPairS [x1n0] x1.2.2.1, Ch.own rPairS [x1n1] x1.2.2.2, Ch.blk (w6.heap.size) [.int .i64 x0.1, .bool x0.2.1, (.slice a_x0n0 x0.2.2.1.length p_x0n0), (.slice a_x0n1 x0.2.2.2.length p_x0n1)] 35, Ch.own rPairS [(.slice a_x0n0 x0.2.2.1.length p_x0n0)] x0.2.2.1, Ch.own rPairS [(.slice a_x0n1 x0.2.2.2.length p_x0n1)] x0.2.2.2, Ch.blk (w.heap.size + 1) [.int .i64 x1.1, .bool x1.2.1, v1_0, v1_1] 28, Ch.blk (w.heap.size) [.int .i64 x0.1, .bool x0.2.1, v0_0, v0_1] 28] from S5.out.call hs)
  clear hs
  obtain ⟨a_x1n0, p_x1n0, rfl⟩ := S6.out.hdr (R := rPair) 0 rfl
  obtain ⟨a_x1n1, p_x1n1, rfl⟩ := S6.out.hdr (R := rPair) 1 rfl
  clear c4_0 z4_0 c4_1 z4_1
  have c6_0 := S6.out.cell 2 rfl; have z6_0 := (S6.out.heap 2 rfl).2.2
  have c6_1 := S6.out.cell 5 rfl; have z6_1 := (S6.out.heap 5 rfl).2.2
  have c6_2 := S6.out.cell 6 rfl; have z6_2 := (S6.out.heap 6 rfl).2.2
  go_wp2_with fail
  have S7 := hid (show St w (w7.alloc (.cells #[.int .i64 x1.1, .bool x1.2.1, (.slice a_x1n0 x1.2.2.1.length p_x1n0), (.slice a_x1n1 x1.2.2.2.length p_x1n1)] 35)) [Ch.blk (w7.heap.size) [.int .i64 x1.1, .bool x1.2.1, (.slice a_x1n0 x1.2.2.1.length p_x1n0), (.slice a_x1n1 x1.2.2.2.length p_x1n1)] 35, Ch.own rPairS [(.slice a_x1n0 x1.2.2.1.length p_x1n0)] x1.2.2.1, Ch.own rPairS [(.slice a_x1n1 x1.2.2.2.length p_x1n1)] x1.2.2.2, Ch.blk (w6.heap.size) [.int .i64 x0.1, .bool x0.2.1, (.slice a_x0n0 x0.2.2.1.length p_x0n0), (.slice a_x0n1 x0.2.2.2.length p_x0n1)] 35, Ch.own rPairS [(.slice a_x0n0 x0.2.2.1.length p_x0n0)] x0.2.2.1, Ch.own rPairS [(.slice a_x0n1 x0.2.2.2.length p_x0n1)] x0.2.2.2, Ch.blk (w.heap.size + 1) [.int .i64 x1.1, .bool x1.2.1, v1_0, v1_1] 28, Ch.blk (w.heap.size) [.int .i64 x0.1, .bool x0.2.1, v0_0, v0_1] 28] from S6.out.alloc [.int .i64 x1.1, .bool x1.2.1, (.slice a_x1n0 x1.2.2.1.length p_x1n0), (.slice a_x1n1 x1.2.2.2.length p_x1n1)] 35)
  refine (iEqualMessages_any (.slice a_x0n0 x0.2.2.1.length p_x0n0) (.slice a_x0n1 x0.2.2.2.length p_x0n1) (.slice a_x1n0 x1.2.2.1.length p_x1n0) (.slice a_x1n1 x1.2.2.2.length p_x1n1) x0 x1 _ o0_0 o1_0 (S7.out.rd 4 rfl) (S7.out.rd 5 rfl) (S7.out.rd 1 rfl) (S7.out.rd 2 rfl) Nx0.out Nx1.out).mono ?_
  rintro e w8 ⟨rfl, hs⟩
  have S8 := hid (show St w w8 [Ch.blk (w7.heap.size) [.int .i64 x1.1, .bool x1.2.1, (.slice a_x1n0 x1.2.2.1.length p_x1n0), (.slice a_x1n1 x1.2.2.2.length p_x1n1)] 35, Ch.own rPairS [(.slice a_x1n0 x1.2.2.1.length p_x1n0)] x1.2.2.1, Ch.own rPairS [(.slice a_x1n1 x1.2.2.2.length p_x1n1)] x1.2.2.2, Ch.blk (w6.heap.size) [.int .i64 x0.1, .bool x0.2.1, (.slice a_x0n0 x0.2.2.1.length p_x0n0), (.slice a_x0n1 x0.2.2.2.length p_x0n1)] 35, Ch.own rPairS [(.slice a_x0n0 x0.2.2.1.length p_x0n0)] x0.2.2.1, Ch.own rPairS [(.slice a_x0n1 x0.2.2.2.length p_x0n1)] x0.2.2.2, Ch.blk (w.heap.size + 1) [.int .i64 x1.1, .bool x1.2.1, v1_0, v1_1] 28, Ch.blk (w.heap.size) [.int .i64 x0.1, .bool x0.2.1, v0_0, v0_1] 28] from S7.out.call hs)
  clear hs
  clear c6_0 z6_0 c6_1 z6_1 c6_2 z6_2
  have c8_0 := S8.out.cell 0 rfl; have z8_0 := (S8.out.heap 0 rfl).2.2
  have c8_1 := S8.out.cell 3 rfl; have z8_1 := (S8.out.heap 3 rfl).2.2
  have c8_2 := S8.out.cell 6 rfl; have z8_2 := (S8.out.heap 6 rfl).2.2
  have c8_3 := S8.out.cell 7 rfl; have z8_3 := (S8.out.heap 7 rfl).2.2
  go_wp2_with fail
  have HK := hid (show ∀ W, St w W [Ch.blk (w7.heap.size) [.int .i64 x1.1, .bool x1.2.1, (.slice a_x1n0 x1.2.2.1.length p_x1n0), (.slice a_x1n1 x1.2.2.2.length p_x1n1)] 35, Ch.own rPairS [(.slice a_x1n0 x1.2.2.1.length p_x1n0)] x1.2.2.1, Ch.own rPairS [(.slice a_x1n1 x1.2.2.2.length p_x1n1)] x1.2.2.2, Ch.blk (w6.heap.size) [.int .i64 x0.1, .bool x0.2.1, (.slice a_x0n0 x0.2.2.1.length p_x0n0), (.slice a_x0n1 x0.2.2.2.length p_x0n1)] 35, Ch.own rPairS [(.slice a_x0n0 x0.2.2.1.length p_x0n0)] x0.2.2.1, Ch.own rPairS [(.slice a_x0n1 x0.2.2.2.length p_x0n1)] x0.2.2.2, Ch.blk (w.heap.size + 1) [.int .i64 x1.1, .bool x1.2.1, v1_0, v1_1] 28, Ch.blk (w.heap.size) [.int .i64 x0.1, .bool x0.2.1, v0_0, v0_1] 28] → (fun w' => St w w' [Ch.blk (w7.heap.size) [.int .i64 x1.1, .bool x1.2.1, (.slice a_x1n0 x1.2.2.1.length p_x1n0), (.slice a_x1n1 x1.2.2.2.length p_x1n1)] 35, Ch.own rPairS [(.slice a_x1n0 x1.2.2.1.length p_x1n0)] x1.2.2.1, Ch.own rPairS [(.slice a_x1n1 x1.2.2.2.length p_x1n1)] x1.2.2.2, Ch.blk (w6.heap.size) [.int .i64 x0.1, .bool x0.2.1, (.slice a_x0n0 x0.2.2.1.length p_x0n0), (.slice a_x0n1 x0.2.2.2.length p_x0n1)] 35, Ch.own rPairS [(.slice a_x0n0 x0.2.2.1.length p_x0n0)] x0.2.2.1, Ch.own rPairS [(.slice a_x0n1 x0.2.2.2.length p_x0n1)] x0.2.2.2, Ch.blk (w.heap.size + 1) [.int .i64 x1.1, .bool x1.2.1, v1_0, v1_1] 28, Ch.blk (w.heap.size) [.int .i64 x0.1, .bool x0.2.1, v0_0, v0_1] 28] ∧ (∀ j, w'.cell? ⟨w7.heap.size, j, none⟩ = ([.int .i64 x1.1, .bool x1.2.1, (.slice a_x1n0 x1.2.2.1.length p_x1n0), (.slice a_x1n1 x1.2.2.2.length p_x1n1)] : List Value)[j]?) ∧ (∀ j, w'.cell? ⟨w6.heap.size, j, none⟩ = ([.int .i64 x0.1, .bool x0.2.1, (.slice a_x0n0 x0.2.2.1.length p_x0n0), (.slice a_x0n1 x0.2.2.2.length p_x0n1)] : List Value)[j]?) ∧ (∀ j, w'.cell? ⟨w.heap.size + 1, j, none⟩ = ([.int .i64 x1.1, .bool x1.2.1, v1_0, v1_1] : List Value)[j]?) ∧ (∀ j, w'.cell? ⟨w.heap.size, j, none⟩ = ([.int .i64 x0.1, .bool x0.2.1, v0_0, v0_1] : List Value)[j]?)) W from fun W h => ⟨h, h.cell 0 rfl, h.cell 3 rfl, h.cell 6 rfl, h.cell 7 rfl⟩)
  go_region_held3 (fun w' => St w w' [Ch.blk (w7.heap.size) [.int .i64 x1.1, .bool x1.2.1, (.slice a_x1n0 x1.2.2.1.length p_x1n0), (.slice a_x1n1 x1.2.2.2.length p_x1n1)] 35, Ch.own rPairS [(.slice a_x1n0 x1.2.2.1.length p_x1n0)] x1.2.2.1, Ch.own rPairS [(.slice a_x1n1 x1.2.2.2.length p_x1n1)] x1.2.2.2, Ch.blk (w6.heap.size) [.int .i64 x0.1, .bool x0.2.1, (.slice a_x0n0 x0.2.2.1.length p_x0n0), (.slice a_x0n1 x0.2.2.2.length p_x0n1)] 35, Ch.own rPairS [(.slice a_x0n0 x0.2.2.1.length p_x0n0)] x0.2.2.1, Ch.own rPairS [(.slice a_x0n1 x0.2.2.2.length p_x0n1)] x0.2.2.2, Ch.blk (w.heap.size + 1) [.int .i64 x1.1, .bool x1.2.1, v1_0, v1_1] 28, Ch.blk (w.heap.size) [.int .i64 x0.1, .bool x0.2.1, v0_0, v0_1] 28] ∧ (∀ j, w'.cell? ⟨w7.heap.size, j, none⟩ = ([.int .i64 x1.1, .bool x1.2.1, (.slice a_x1n0 x1.2.2.1.length p_x1n0), (.slice a_x1n1 x1.2.2.2.length p_x1n1)] : List Value)[j]?) ∧ (∀ j, w'.cell? ⟨w6.heap.size, j, none⟩ = ([.int .i64 x0.1, .bool x0.2.1, (.slice a_x0n0 x0.2.2.1.length p_x0n0), (.slice a_x0n1 x0.2.2.2.length p_x0n1)] : List Value)[j]?) ∧ (∀ j, w'.cell? ⟨w.heap.size + 1, j, none⟩ = ([.int .i64 x1.1, .bool x1.2.1, v1_0, v1_1] : List Value)[j]?) ∧ (∀ j, w'.cell? ⟨w.heap.size, j, none⟩ = ([.int .i64 x0.1, .bool x0.2.1, v0_0, v0_1] : List Value)[j]?)) (first | exact HK.out _ S8.out.drew | exact HK.out _ (held_any (by assumption) (by assumption))) (first | (go_at_call 10; refine (toMessage_any v0_0 v0_1 x0 _ o0_0 ?_ ?_ Nx0.out).mono ?_; exact arg_any (by assumption) h0_0; exact arg_any (by assumption) h0_1; rintro e w9 ⟨t3_0, t3_1, rfl, ht3⟩) | (go_at_call 12; refine (eqMessage_any (.slice a_x0n0 x0.2.2.1.length p_x0n0) (.slice a_x0n1 x0.2.2.2.length p_x0n1) t3_0 t3_1 x0 x0 _ ?_ ?_ ?_ ?_).mono ?_; exact rd_any (by assumption) 4 rfl; exact rd_any (by assumption) 5 rfl; exact ht3.rd 0 rfl; exact ht3.rd 1 rfl; rintro e w10 ⟨rfl, hr16⟩; rw [decide_eq_true rfl]))
  clear HK
  have SA := hid (show St w w10 [Ch.blk (w7.heap.size) [.int .i64 x1.1, .bool x1.2.1, (.slice a_x1n0 x1.2.2.1.length p_x1n0), (.slice a_x1n1 x1.2.2.2.length p_x1n1)] 35, Ch.own rPairS [(.slice a_x1n0 x1.2.2.1.length p_x1n0)] x1.2.2.1, Ch.own rPairS [(.slice a_x1n1 x1.2.2.2.length p_x1n1)] x1.2.2.2, Ch.blk (w6.heap.size) [.int .i64 x0.1, .bool x0.2.1, (.slice a_x0n0 x0.2.2.1.length p_x0n0), (.slice a_x0n1 x0.2.2.2.length p_x0n1)] 35, Ch.own rPairS [(.slice a_x0n0 x0.2.2.1.length p_x0n0)] x0.2.2.1, Ch.own rPairS [(.slice a_x0n1 x0.2.2.2.length p_x0n1)] x0.2.2.2, Ch.blk (w.heap.size + 1) [.int .i64 x1.1, .bool x1.2.1, v1_0, v1_1] 28, Ch.blk (w.heap.size) [.int .i64 x0.1, .bool x0.2.1, v0_0, v0_1] 28] from And.left (by assumption))
  clear ht3 hr16
  have S9 := SA; clear SA
  clear c8_0 z8_0 c8_1 z8_1 c8_2 z8_2 c8_3 z8_3
  have c9_0 := S9.out.cell 0 rfl; have z9_0 := (S9.out.heap 0 rfl).2.2
  have c9_1 := S9.out.cell 3 rfl; have z9_1 := (S9.out.heap 3 rfl).2.2
  have c9_2 := S9.out.cell 6 rfl; have z9_2 := (S9.out.heap 6 rfl).2.2
  have c9_3 := S9.out.cell 7 rfl; have z9_3 := (S9.out.heap 7 rfl).2.2
  go_wp2_with fail
  have HK := hid (show ∀ W, St w W [Ch.blk (w7.heap.size) [.int .i64 x1.1, .bool x1.2.1, (.slice a_x1n0 x1.2.2.1.length p_x1n0), (.slice a_x1n1 x1.2.2.2.length p_x1n1)] 35, Ch.own rPairS [(.slice a_x1n0 x1.2.2.1.length p_x1n0)] x1.2.2.1, Ch.own rPairS [(.slice a_x1n1 x1.2.2.2.length p_x1n1)] x1.2.2.2, Ch.blk (w6.heap.size) [.int .i64 x0.1, .bool x0.2.1, (.slice a_x0n0 x0.2.2.1.length p_x0n0), (.slice a_x0n1 x0.2.2.2.length p_x0n1)] 35, Ch.own rPairS [(.slice a_x0n0 x0.2.2.1.length p_x0n0)] x0.2.2.1, Ch.own rPairS [(.slice a_x0n1 x0.2.2.2.length p_x0n1)] x0.2.2.2, Ch.blk (w.heap.size + 1) [.int .i64 x1.1, .bool x1.2.1, v1_0, v1_1] 28, Ch.blk (w.heap.size) [.int .i64 x0.1, .bool x0.2.1, v0_0, v0_1] 28] → (fun w' => St w w' [Ch.blk (w7.heap.size) [.int .i64 x1.1, .bool x1.2.1, (.slice a_x1n0 x1.2.2.1.length p_x1n0), (.slice a_x1n1 x1.2.2.2.length p_x1n1)] 35, Ch.own rPairS [(.slice a_x1n0 x1.2.2.1.length p_x1n0)] x1.2.2.1, Ch.own rPairS [(.slice a_x1n1 x1.2.2.2.length p_x1n1)] x1.2.2.2, Ch.blk (w6.heap.size) [.int .i64 x0.1, .bool x0.2.1, (.slice a_x0n0 x0.2.2.1.length p_x0n0), (.slice a_x0n1 x0.2.2.2.length p_x0n1)] 35, Ch.own rPairS [(.slice a_x0n0 x0.2.2.1.length p_x0n0)] x0.2.2.1, Ch.own rPairS [(.slice a_x0n1 x0.2.2.2.length p_x0n1)] x0.2.2.2, Ch.blk (w.heap.size + 1) [.int .i64 x1.1, .bool x1.2.1, v1_0, v1_1] 28, Ch.blk (w.heap.size) [.int .i64 x0.1, .bool x0.2.1, v0_0, v0_1] 28] ∧ (∀ j, w'.cell? ⟨w7.heap.size, j, none⟩ = ([.int .i64 x1.1, .bool x1.2.1, (.slice a_x1n0 x1.2.2.1.length p_x1n0), (.slice a_x1n1 x1.2.2.2.length p_x1n1)] : List Value)[j]?) ∧ (∀ j, w'.cell? ⟨w6.heap.size, j, none⟩ = ([.int .i64 x0.1, .bool x0.2.1, (.slice a_x0n0 x0.2.2.1.length p_x0n0), (.slice a_x0n1 x0.2.2.2.length p_x0n1)] : List Value)[j]?) ∧ (∀ j, w'.cell? ⟨w.heap.size + 1, j, none⟩ = ([.int .i64 x1.1, .bool x1.2.1, v1_0, v1_1] : List Value)[j]?) ∧ (∀ j, w'.cell? ⟨w.heap.size, j, none⟩ = ([.int .i64 x0.1, .bool x0.2.1, v0_0, v0_1] : List Value)[j]?)) W from fun W h => ⟨h, h.cell 0 rfl, h.cell 3 rfl, h.cell 6 rfl, h.cell 7 rfl⟩)
  go_region_held3 (fun w' => St w w' [Ch.blk (w7.heap.size) [.int .i64 x1.1, .bool x1.2.1, (.slice a_x1n0 x1.2.2.1.length p_x1n0), (.slice a_x1n1 x1.2.2.2.length p_x1n1)] 35, Ch.own rPairS [(.slice a_x1n0 x1.2.2.1.length p_x1n0)] x1.2.2.1, Ch.own rPairS [(.slice a_x1n1 x1.2.2.2.length p_x1n1)] x1.2.2.2, Ch.blk (w6.heap.size) [.int .i64 x0.1, .bool x0.2.1, (.slice a_x0n0 x0.2.2.1.length p_x0n0), (.slice a_x0n1 x0.2.2.2.length p_x0n1)] 35, Ch.own rPairS [(.slice a_x0n0 x0.2.2.1.length p_x0n0)] x0.2.2.1, Ch.own rPairS [(.slice a_x0n1 x0.2.2.2.length p_x0n1)] x0.2.2.2, Ch.blk (w.heap.size + 1) [.int .i64 x1.1, .bool x1.2.1, v1_0, v1_1] 28, Ch.blk (w.heap.size) [.int .i64 x0.1, .bool x0.2.1, v0_0, v0_1] 28] ∧ (∀ j, w'.cell? ⟨w7.heap.size, j, none⟩ = ([.int .i64 x1.1, .bool x1.2.1, (.slice a_x1n0 x1.2.2.1.length p_x1n0), (.slice a_x1n1 x1.2.2.2.length p_x1n1)] : List Value)[j]?) ∧ (∀ j, w'.cell? ⟨w6.heap.size, j, none⟩ = ([.int .i64 x0.1, .bool x0.2.1, (.slice a_x0n0 x0.2.2.1.length p_x0n0), (.slice a_x0n1 x0.2.2.2.length p_x0n1)] : List Value)[j]?) ∧ (∀ j, w'.cell? ⟨w.heap.size + 1, j, none⟩ = ([.int .i64 x1.1, .bool x1.2.1, v1_0, v1_1] : List Value)[j]?) ∧ (∀ j, w'.cell? ⟨w.heap.size, j, none⟩ = ([.int .i64 x0.1, .bool x0.2.1, v0_0, v0_1] : List Value)[j]?)) (first | exact HK.out _ S9.out.drew | exact HK.out _ (held_any (by assumption) (by assumption))) (first | (go_at_call 10; refine (toMessage_any v1_0 v1_1 x1 _ o1_0 ?_ ?_ Nx1.out).mono ?_; exact arg_any (by assumption) h1_0; exact arg_any (by assumption) h1_1; rintro e w11 ⟨t4_0, t4_1, rfl, ht4⟩) | (go_at_call 12; refine (eqMessage_any (.slice a_x1n0 x1.2.2.1.length p_x1n0) (.slice a_x1n1 x1.2.2.2.length p_x1n1) t4_0 t4_1 x1 x1 _ ?_ ?_ ?_ ?_).mono ?_; exact rd_any (by assumption) 1 rfl; exact rd_any (by assumption) 2 rfl; exact ht4.rd 0 rfl; exact ht4.rd 1 rfl; rintro e w12 ⟨rfl, hr19⟩; rw [decide_eq_true rfl]))
  clear HK
  have SA := hid (show St w w12 [Ch.blk (w7.heap.size) [.int .i64 x1.1, .bool x1.2.1, (.slice a_x1n0 x1.2.2.1.length p_x1n0), (.slice a_x1n1 x1.2.2.2.length p_x1n1)] 35, Ch.own rPairS [(.slice a_x1n0 x1.2.2.1.length p_x1n0)] x1.2.2.1, Ch.own rPairS [(.slice a_x1n1 x1.2.2.2.length p_x1n1)] x1.2.2.2, Ch.blk (w6.heap.size) [.int .i64 x0.1, .bool x0.2.1, (.slice a_x0n0 x0.2.2.1.length p_x0n0), (.slice a_x0n1 x0.2.2.2.length p_x0n1)] 35, Ch.own rPairS [(.slice a_x0n0 x0.2.2.1.length p_x0n0)] x0.2.2.1, Ch.own rPairS [(.slice a_x0n1 x0.2.2.2.length p_x0n1)] x0.2.2.2, Ch.blk (w.heap.size + 1) [.int .i64 x1.1, .bool x1.2.1, v1_0, v1_1] 28, Ch.blk (w.heap.size) [.int .i64 x0.1, .bool x0.2.1, v0_0, v0_1] 28] from And.left (by assumption))
  clear ht4 hr19
  have S10 := SA; clear SA
  clear c9_0 z9_0 c9_1 z9_1 c9_2 z9_2 c9_3 z9_3
  have c10_0 := S10.out.cell 0 rfl; have z10_0 := (S10.out.heap 0 rfl).2.2
  have c10_1 := S10.out.cell 3 rfl; have z10_1 := (S10.out.heap 3 rfl).2.2
  have c10_2 := S10.out.cell 6 rfl; have z10_2 := (S10.out.heap 6 rfl).2.2
  have c10_3 := S10.out.cell 7 rfl; have z10_3 := (S10.out.heap 7 rfl).2.2
  go_wp2
  go_ret
  exact ⟨rfl, S10.out.drop⟩

theorem opInt : Opens Try.prog 3 rInt := opens_int Try.underlying3
theorem opBool : Opens Try.prog 4 rBool := opens_bool Try.underlying4
theorem opPair : Opens Try.prog 80 rPair := by
  refine opens_struct Try.underlying80 (by kernel_rfl) ?_
  refine opens_next (R := rInt) (S := rInt) rfl (by kernel_rfl) opInt ?_
  exact opens_last rfl (by kernel_rfl) opInt
theorem opPairS : Opens Try.prog 24 rPairS := opens_slice Try.underlying24 (by kernel_rfl) (by decide) opPair
theorem opDelta : Opens Try.prog 26 rDelta := by
  refine opens_struct Try.underlying26 (by kernel_rfl) ?_
  refine opens_next (R := rPairS) (S := rPairS) rfl (by kernel_rfl) opPairS ?_
  exact opens_last rfl (by kernel_rfl) opPairS
theorem opMessage : Opens Try.prog 28 rMessage := by
  refine opens_struct Try.underlying28 (by kernel_rfl) ?_
  refine opens_next (R := rInt) (S := (rProd rBool rDelta)) rfl (by kernel_rfl) opInt ?_
  refine opens_next (R := rBool) (S := rDelta) rfl (by kernel_rfl) opBool ?_
  exact opens_last rfl (by kernel_rfl) opDelta
theorem rdLMessage {W : World} {base : Nat} {z : Value} {H : Type} {enc : TypeId × Value → H} {d : DataW H} {p : List MemPlace} (hv : Value.okWide Try.prog W .any base 28 z) (h : DataW.Trod enc Try.prog W 0 (fun _ => true) true 28 z d p) :
    ∃ (x : DMessage) (v0 v1 : Value), z = .agg #[.int .i64 x.1, .bool x.2.1, v0, v1] ∧ I64 (x.1) ∧ rPairS.rd W.heap.size W [v0] x.2.2.1 ∧ rPairS.rd W.heap.size W [v1] x.2.2.2 := by
  obtain ⟨fuel, hf⟩ := h
  obtain ⟨cs, rfl, -⟩ := okWide_struct Try.underlying28 hv
  obtain ⟨x, hx⟩ := opMessage.out enc W _ _ _ hf
  obtain ⟨v0, v1, hcs, k0, k1, k2⟩ := open_Message hx
  have hcs' : cs = #[.int .i64 x.1, .bool x.2.1, v0, v1] := by apply Array.ext'; exact hcs
  exact ⟨x, v0, v1, by rw [hcs'], k0, k1, k2⟩

theorem rowLEqualMessages (W : World) (args : Array Value) (H : Type) (enc : TypeId × Value → H) (base : Nat) (ds gs : List (DataW H)) (before : List MemPlace)
    (hval : ∀ (j : Nat) t v, Try.f4.params[j]? = some t → args[j]? = some v → Value.okWide Try.prog W .any base t v)
    (hsz : (DataW.weightsEach Try.prog (Try.f4.params.toList ++ []) (ds ++ gs)).all (fun x => decide (x ≤ reachBytes)) = true)
    (hW : DataW.Whole enc Try.prog Try.f4.params.toList Rows.fnExactEqualMessagesSpec.vars false W args.toList ds gs before) :
    Calls Try.prog 4 args W fun e W' => ∃ v, e = .returned v ∧ Rows.fnExactEqualMessagesSpec.post enc Try.prog Try.f4 false true false false W args v W' := by
  have hW' := hW
  obtain ⟨p, q, hA, hV, rfl, hfz, hnd⟩ := hW
  rw [Try.params4] at hA hval hsz
  obtain ⟨z0, vs0, d0, ds0, p0, q0, hargs, rfl, rfl, h0, r0⟩ := trodAll_cons hA
  obtain ⟨z1, vs1, d1, ds1, p1, q1, rfl, rfl, rfl, h1, r1⟩ := trodAll_cons r0
  obtain ⟨rfl, rfl, rfl⟩ := trodAll_nil r1
  obtain rfl : args = #[z0, z1] := by cases args; simp_all
  obtain ⟨rfl, rfl⟩ := trodVars_none hV
  obtain ⟨x0, v0_0, v0_1, rfl, o0_0, h0_0, h0_1⟩ := rdLMessage (hval 0 _ _ rfl rfl) h0
  obtain ⟨x1, v1_0, v1_1, rfl, o1_0, h1_0, h1_1⟩ := rdLMessage (hval 1 _ _ rfl rfl) h1
  refine (lawEqualMessages_any v0_0 v0_1 v1_0 v1_1 x0 x1 W o0_0 h0_0 h0_1 o1_0 h1_0 h1_1).mono fun e W' ⟨he, hs⟩ => ?_
  subst he
  exact ⟨_, rfl, law_post (f := Try.f4) (s := Rows.fnExactEqualMessagesSpec) 4 Try.underlying4 rfl (by kernel_rfl) rfl hW' rfl rfl rfl hs.below⟩
set_option maxRecDepth 100000 in
theorem liftedLEqualMessages (os : Os) (started : os.Started) (H : Type) (enc : TypeId × Value → H) :
    ReturnsInHanded {} Try.checked os 4 .any (Rows.fnExactEqualMessagesSpec.pre6 enc Try.prog Try.f4 Rows.fnExactEqualMessagesRow.domain false) (Rows.fnExactEqualMessagesSpec.post enc Try.prog Try.f4 false true false false) := by
  refine returnsInHanded_of_change_sized (C := Try.checked) own started (by kernel_rfl) Try.func4
    (ChangeSpec.witness6 (enc := enc) (C := Try.checked) false ⟨#[], #[.agg #[.int .i64 0, .bool false, .slice none 0 0, .slice none 0 0], .agg #[.int .i64 0, .bool false, .slice none 0 0, .slice none 0 0]], []⟩ 8 (by kernel_rfl) (by kernel_rfl) (by kernel_rfl) (by kernel_rfl)) ?_
  intro W base args ds gs before hval hW hcnd hsz _
  exact rowLEqualMessages W args H enc base ds gs before hval hsz hW
theorem holdsLEqualMessages : Rows.FnExactEqualMessagesSaid :=
  OpenClaim.holds_of_wide 4 Try.f4 rfl rfl rfl rfl rfl rfl rfl ⟨rfl, rfl, rfl, rfl, rfl⟩ rfl rfl rfl rfl rfl (by kernel_rfl) Try.func4 (by kernel_rfl)
    (of_decide_eq_true (by kernel_rfl)) (by unfold Func.isWrapper; first | (rw [if_pos (by decide +kernel)]; kernel_rfl) | (rw [if_neg (by decide +kernel)]; exact ⟨rfl, rfl⟩))
    (fun os started H enc _ => liftedLEqualMessages os started H enc)
end Go.Proofs.Ytokiommgielfjaa
