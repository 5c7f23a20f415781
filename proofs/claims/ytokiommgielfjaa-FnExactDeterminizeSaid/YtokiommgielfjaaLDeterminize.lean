/- FnExactDeterminize: for every input the law returns true and changes nothing that was there: the program's Determinize answers as the reference's does. No condition. (Written by a program of ours, genlaw.py, over the contracts of the two functions.) -/
import Derived.Test.YtokiommgielfjaaDetB
import Derived.Test.YtokiommgielfjaaK
import Derived.Test.YtokiommgielfjaaLaw
import Derived.Test.YtokiommgielfjaaOpen
set_option linter.unusedVariables false
set_option linter.unusedSimpArgs false
namespace Go.Proofs.Ytokiommgielfjaa
open Go.ChangeShapes Go.WideShapes Go.ChangeAt Go.RowKit

set_option maxHeartbeats 4000000 in
theorem lawDeterminize_any (v0_0 v0_1 : Value) (x0 : DPositions) (w : World) (o0_0 : I64 (x0.2.1)) (o0_1 : I64 (x0.2.2.1)) (h0_0 : rIntS.rd w.heap.size w [v0_0] x0.1) (h0_1 : rIntS.rd w.heap.size w [v0_1] x0.2.2.2.1) :
    Calls Try.prog 5 #[.agg #[v0_0, .int .i64 x0.2.1, .int .i64 x0.2.2.1, v0_1, .bool x0.2.2.2.2]] w fun e w' => e = .returned (.bool true) ∧ St w w' [] := by
  have S0 := hid (show St w ((w).alloc (.cells #[v0_0, .int .i64 x0.2.1, .int .i64 x0.2.2.1, v0_1, .bool x0.2.2.2.2] 40)) [Ch.blk (w.heap.size) [v0_0, .int .i64 x0.2.1, .int .i64 x0.2.2.1, v0_1, .bool x0.2.2.2.2] 40] from (St.init w).alloc _ _)
  go_enter Try.func5, Try.ntmps5
  go_wp2_with fail
  refine (szPositions_any v0_0 v0_1 x0 (1048576) _ (S0.out.arg h0_0) (S0.out.arg h0_1) (by omega) (by omega)).mono ?_
  rintro e w1 ⟨rfl, hs⟩
  have S1 := hid (show St w w1 [Ch.blk (w.heap.size) [v0_0, .int .i64 x0.2.1, .int .i64 x0.2.2.1, v0_1, .bool x0.2.2.2.2] 40] from S0.out.call hs)
  clear hs
  have c1_0 := S1.out.cell 0 rfl; have z1_0 := (S1.out.heap 0 rfl).2.2
  by_cases hn : lft (1048576) (szPositions x0) < 0
  · go_wp2
    go_ret
    exact ⟨rfl, S1.out.drop⟩
  have hp1 : 0 ≤ lft (1048576) (szPositions x0) := by omega
  have Nx0 := hid (show szPositions x0 ≤ 1048576 from by have h1 := le_of_lft hp1; have h2 : (1048576 : Int) ≤ 1048576 := (by omega); omega)
  have hq1 : lft (1048576) (szPositions x0) ≤ 1048576 := lft_le (by omega)
  generalize lft (1048576) (szPositions x0) = L1 at hp1 hq1 hn ⊢; clear hn
  have HP1 := hid hp1; have HQ1 := hid hq1; clear hq1
  go_wp2_with fail
  refine (toPositions_any v0_0 v0_1 x0 _ o0_0 o0_1 (S1.out.arg h0_0) (S1.out.arg h0_1) Nx0.out).mono ?_
  rintro e w2 ⟨t1_0, t1_1, rfl, hs⟩
  have S2 := hid (show St w w2 [Ch.own rIntS [t1_0] x0.1, Ch.own rIntS [t1_1] x0.2.2.2.1, Ch.blk (w.heap.size) [v0_0, .int .i64 x0.2.1, .int .i64 x0.2.2.1, v0_1, .bool x0.2.2.2.2] 40] from S1.out.call hs)
  clear hs
  obtain ⟨a_t1_0, p_t1_0, rfl⟩ := S2.out.hdr (R := rInt) 0 rfl
  obtain ⟨a_t1_1, p_t1_1, rfl⟩ := S2.out.hdr (R := rInt) 1 rfl
  clear c1_0 z1_0
  have c2_0 := S2.out.cell 2 rfl; have z2_0 := (S2.out.heap 2 rfl).2.2
  go_wp2_with fail
  refine (sDeterminize_any (.slice a_t1_0 x0.1.length p_t1_0) (.slice a_t1_1 x0.2.2.2.1.length p_t1_1) x0 _ o0_0 o0_1 (S2.out.rd 0 rfl) (S2.out.rd 1 rfl) Nx0.out).mono ?_
  rintro e w3 ⟨rw5_0, rw5_1, rfl, hs⟩
  have S3 := hid (show St w w3 [Ch.own rBoolS [rw5_0] ((dDeterminize x0).1.2.1), Ch.own rIntSS [rw5_1] ((dDeterminize x0).1.2.2), Ch.own rIntS [(.slice a_t1_0 x0.1.length p_t1_0)] x0.1, Ch.own rIntS [(.slice a_t1_1 x0.2.2.2.1.length p_t1_1)] x0.2.2.2.1, Ch.blk (w.heap.size) [v0_0, .int .i64 x0.2.1, .int .i64 x0.2.2.1, v0_1, .bool x0.2.2.2.2] 40] from S2.out.call hs)
  clear hs
  obtain ⟨a_rw5_0, p_rw5_0, rfl⟩ := S3.out.hdr (R := rBool) 0 rfl
  obtain ⟨a_rw5_1, p_rw5_1, rfl⟩ := S3.out.hdr (R := rIntS) 1 rfl
  have S4 := hid (show St w w3 [Ch.own rBoolS [(.slice a_rw5_0 ((dDeterminize x0).1.2.1).length p_rw5_0)] ((dDeterminize x0).1.2.1), Ch.own rIntSS [(.slice a_rw5_1 ((dDeterminize x0).1.2.2).length p_rw5_1)] ((dDeterminize x0).1.2.2), Ch.blk (w.heap.size) [v0_0, .int .i64 x0.2.1, .int .i64 x0.2.2.1, v0_1, .bool x0.2.2.2.2] 40] from S3.out.sel 5 [0, 1, 4] rfl (by decide))
  clear c2_0 z2_0
  have c4_0 := S4.out.cell 2 rfl; have z4_0 := (S4.out.heap 2 rfl).2.2
  go_wp2_with fail
  have S5 := hid (show St w (w3.alloc (.cells #[.int .i64 (dDeterminize x0).1.1, (.slice a_rw5_0 ((dDeterminize x0).1.2.1).length p_rw5_0), (.slice a_rw5_1 ((dDeterminize x0).1.2.2).length p_rw5_1)] 45)) [Ch.blk (w3.heap.size) [.int .i64 (dDeterminize x0).1.1, (.slice a_rw5_0 ((dDeterminize x0).1.2.1).length p_rw5_0), (.slice a_rw5_1 ((dDeterminize x0).1.2.2).length p_rw5_1)] 45, Ch.own rBoolS [(.slice a_rw5_0 ((dDeterminize x0).1.2.1).length p_rw5_0)] ((dDeterminize x0).1.2.1), Ch.own rIntSS [(.slice a_rw5_1 ((dDeterminize x0).1.2.2).length p_rw5_1)] ((dDeterminize x0).1.2.2), Ch.blk (w.heap.size) [v0_0, .int .i64 x0.2.1, .int .i64 x0.2.2.1, v0_1, .bool x0.2.2.2.2] 40] from S4.out.alloc [.int .i64 (dDeterminize x0).1.1, (.slice a_rw5_0 ((dDeterminize x0).1.2.1).length p_rw5_0), (.slice a_rw5_1 ((dDeterminize x0).1.2.2).length p_rw5_1)] 45)
  refine (toPositions_any v0_0 v0_1 x0 _ o0_0 o0_1 (S5.out.arg h0_0) (S5.out.arg h0_1) Nx0.out).mono ?_
  rintro e w4 ⟨x0n0, x0n1, rfl, hs⟩
  have S6 := hid (show St w w4 [Ch.own rIntS [x0n0] x0.1, Ch.own rIntS [x0n1] x0.2.2.2.1, Ch.blk (w3.heap.size) [.int .i64 (dDeterminize x0).1.1, (.slice a_rw5_0 ((dDeterminize x0).1.2.1).length p_rw5_0), (.slice a_rw5_1 ((dDeterminize x0).1.2.2).length p_rw5_1)] 45, Ch.own rBoolS [(.slice a_rw5_0 ((dDeterminize x0).1.2.1).length p_rw5_0)] ((dDeterminize x0).1.2.1), Ch.own rIntSS [(.slice a_rw5_1 ((dDeterminize x0).1.2.2).length p_rw5_1)] ((dDeterminize x0).1.2.2), Ch.blk (w.heap.size) [v0_0, .int .i64 x0.2.1, .int .i64 x0.2.2.1, v0_1, .bool x0.2.2.2.2] 40] from S5.out.call hs)
  clear hs
  obtain ⟨a_x0n0, p_x0n0, rfl⟩ := S6.out.hdr (R := rInt) 0 rfl
  obtain ⟨a_x0n1, p_x0n1, rfl⟩ := S6.out.hdr (R := rInt) 1 rfl
  clear c4_0 z4_0
  have c6_0 := S6.out.cell 2 rfl; have z6_0 := (S6.out.heap 2 rfl).2.2
  have c6_1 := S6.out.cell 5 rfl; have z6_1 := (S6.out.heap 5 rfl).2.2
  go_wp2_with fail
  have S7 := hid (show St w (w4.alloc (.cells #[(.slice a_x0n0 x0.1.length p_x0n0), .int .i64 x0.2.1, .int .i64 x0.2.2.1, (.slice a_x0n1 x0.2.2.2.1.length p_x0n1), .bool x0.2.2.2.2] 48)) [Ch.blk (w4.heap.size) [(.slice a_x0n0 x0.1.length p_x0n0), .int .i64 x0.2.1, .int .i64 x0.2.2.1, (.slice a_x0n1 x0.2.2.2.1.length p_x0n1), .bool x0.2.2.2.2] 48, Ch.own rIntS [(.slice a_x0n0 x0.1.length p_x0n0)] x0.1, Ch.own rIntS [(.slice a_x0n1 x0.2.2.2.1.length p_x0n1)] x0.2.2.2.1, Ch.blk (w3.heap.size) [.int .i64 (dDeterminize x0).1.1, (.slice a_rw5_0 ((dDeterminize x0).1.2.1).length p_rw5_0), (.slice a_rw5_1 ((dDeterminize x0).1.2.2).length p_rw5_1)] 45, Ch.own rBoolS [(.slice a_rw5_0 ((dDeterminize x0).1.2.1).length p_rw5_0)] ((dDeterminize x0).1.2.1), Ch.own rIntSS [(.slice a_rw5_1 ((dDeterminize x0).1.2.2).length p_rw5_1)] ((dDeterminize x0).1.2.2), Ch.blk (w.heap.size) [v0_0, .int .i64 x0.2.1, .int .i64 x0.2.2.1, v0_1, .bool x0.2.2.2.2] 40] from S6.out.alloc [(.slice a_x0n0 x0.1.length p_x0n0), .int .i64 x0.2.1, .int .i64 x0.2.2.1, (.slice a_x0n1 x0.2.2.2.1.length p_x0n1), .bool x0.2.2.2.2] 48)
  refine (iDeterminize_any (.slice a_x0n0 x0.1.length p_x0n0) (.slice a_x0n1 x0.2.2.2.1.length p_x0n1) x0 _ o0_0 o0_1 (S7.out.rd 1 rfl) (S7.out.rd 2 rfl) Nx0.out).mono ?_
  rintro e w5 ⟨rg7_0, rg7_1, rfl, hs⟩
  have S8 := hid (show St w w5 [Ch.own rBoolS [rg7_0] ((dDeterminize x0).1.2.1), Ch.own rIntSS [rg7_1] ((dDeterminize x0).1.2.2), Ch.blk (w4.heap.size) [(.slice a_x0n0 x0.1.length p_x0n0), .int .i64 x0.2.1, .int .i64 x0.2.2.1, (.slice a_x0n1 x0.2.2.2.1.length p_x0n1), .bool x0.2.2.2.2] 48, Ch.own rIntS [(.slice a_x0n0 x0.1.length p_x0n0)] x0.1, Ch.own rIntS [(.slice a_x0n1 x0.2.2.2.1.length p_x0n1)] x0.2.2.2.1, Ch.blk (w3.heap.size) [.int .i64 (dDeterminize x0).1.1, (.slice a_rw5_0 ((dDeterminize x0).1.2.1).length p_rw5_0), (.slice a_rw5_1 ((dDeterminize x0).1.2.2).length p_rw5_1)] 45, Ch.own rBoolS [(.slice a_rw5_0 ((dDeterminize x0).1.2.1).length p_rw5_0)] ((dDeterminize x0).1.2.1), Ch.own rIntSS [(.slice a_rw5_1 ((dDeterminize x0).1.2.2).length p_rw5_1)] ((dDeterminize x0).1.2.2), Ch.blk (w.heap.size) [v0_0, .int .i64 x0.2.1, .int .i64 x0.2.2.1, v0_1, .bool x0.2.2.2.2] 40] from S7.out.call hs)
  clear hs
  obtain ⟨a_rg7_0, p_rg7_0, rfl⟩ := S8.out.hdr (R := rBool) 0 rfl
  obtain ⟨a_rg7_1, p_rg7_1, rfl⟩ := S8.out.hdr (R := rIntS) 1 rfl
  clear c6_0 z6_0 c6_1 z6_1
  have c8_0 := S8.out.cell 2 rfl; have z8_0 := (S8.out.heap 2 rfl).2.2
  have c8_1 := S8.out.cell 5 rfl; have z8_1 := (S8.out.heap 5 rfl).2.2
  have c8_2 := S8.out.cell 8 rfl; have z8_2 := (S8.out.heap 8 rfl).2.2
  go_wp2_with fail
  have S9 := hid (show St w (w5.alloc (.cells #[.int .i64 (dDeterminize x0).1.1, (.slice a_rg7_0 ((dDeterminize x0).1.2.1).length p_rg7_0), (.slice a_rg7_1 ((dDeterminize x0).1.2.2).length p_rg7_1)] 45)) [Ch.blk (w5.heap.size) [.int .i64 (dDeterminize x0).1.1, (.slice a_rg7_0 ((dDeterminize x0).1.2.1).length p_rg7_0), (.slice a_rg7_1 ((dDeterminize x0).1.2.2).length p_rg7_1)] 45, Ch.own rBoolS [(.slice a_rg7_0 ((dDeterminize x0).1.2.1).length p_rg7_0)] ((dDeterminize x0).1.2.1), Ch.own rIntSS [(.slice a_rg7_1 ((dDeterminize x0).1.2.2).length p_rg7_1)] ((dDeterminize x0).1.2.2), Ch.blk (w4.heap.size) [(.slice a_x0n0 x0.1.length p_x0n0), .int .i64 x0.2.1, .int .i64 x0.2.2.1, (.slice a_x0n1 x0.2.2.2.1.length p_x0n1), .bool x0.2.2.2.2] 48, Ch.own rIntS [(.slice a_x0n0 x0.1.length p_x0n0)] x0.1, Ch.own rIntS [(.slice a_x0n1 x0.2.2.2.1.length p_x0n1)] x0.2.2.2.1, Ch.blk (w3.heap.size) [.int .i64 (dDeterminize x0).1.1, (.slice a_rw5_0 ((dDeterminize x0).1.2.1).length p_rw5_0), (.slice a_rw5_1 ((dDeterminize x0).1.2.2).length p_rw5_1)] 45, Ch.own rBoolS [(.slice a_rw5_0 ((dDeterminize x0).1.2.1).length p_rw5_0)] ((dDeterminize x0).1.2.1), Ch.own rIntSS [(.slice a_rw5_1 ((dDeterminize x0).1.2.2).length p_rw5_1)] ((dDeterminize x0).1.2.2), Ch.blk (w.heap.size) [v0_0, .int .i64 x0.2.1, .int .i64 x0.2.2.1, v0_1, .bool x0.2.2.2.2] 40] from S8.out.alloc [.int .i64 (dDeterminize x0).1.1, (.slice a_rg7_0 ((dDeterminize x0).1.2.1).length p_rg7_0), (.slice a_rg7_1 ((dDeterminize x0).1.2.2).length p_rg7_1)] 45)
  refine (eqAutomaton_any (.slice a_rg7_0 ((dDeterminize x0).1.2.1).length p_rg7_0) (.slice a_rg7_1 ((dDeterminize x0).1.2.2).length p_rg7_1) (.slice a_rw5_0 ((dDeterminize x0).1.2.1).length p_rw5_0) (.slice a_rw5_1 ((dDeterminize x0).1.2.2).length p_rw5_1) (dDeterminize x0).1 (dDeterminize x0).1 _ (S9.out.rd 1 rfl) (S9.out.rd 2 rfl) (S9.out.rd 7 rfl) (S9.out.rd 8 rfl)).mono ?_
  rintro e w6 ⟨rfl, hs⟩
  rw [decide_eq_true rfl]
  have S10 := hid (show St w w6 [Ch.blk (w5.heap.size) [.int .i64 (dDeterminize x0).1.1, (.slice a_rg7_0 ((dDeterminize x0).1.2.1).length p_rg7_0), (.slice a_rg7_1 ((dDeterminize x0).1.2.2).length p_rg7_1)] 45, Ch.own rBoolS [(.slice a_rg7_0 ((dDeterminize x0).1.2.1).length p_rg7_0)] ((dDeterminize x0).1.2.1), Ch.own rIntSS [(.slice a_rg7_1 ((dDeterminize x0).1.2.2).length p_rg7_1)] ((dDeterminize x0).1.2.2), Ch.blk (w4.heap.size) [(.slice a_x0n0 x0.1.length p_x0n0), .int .i64 x0.2.1, .int .i64 x0.2.2.1, (.slice a_x0n1 x0.2.2.2.1.length p_x0n1), .bool x0.2.2.2.2] 48, Ch.own rIntS [(.slice a_x0n0 x0.1.length p_x0n0)] x0.1, Ch.own rIntS [(.slice a_x0n1 x0.2.2.2.1.length p_x0n1)] x0.2.2.2.1, Ch.blk (w3.heap.size) [.int .i64 (dDeterminize x0).1.1, (.slice a_rw5_0 ((dDeterminize x0).1.2.1).length p_rw5_0), (.slice a_rw5_1 ((dDeterminize x0).1.2.2).length p_rw5_1)] 45, Ch.own rBoolS [(.slice a_rw5_0 ((dDeterminize x0).1.2.1).length p_rw5_0)] ((dDeterminize x0).1.2.1), Ch.own rIntSS [(.slice a_rw5_1 ((dDeterminize x0).1.2.2).length p_rw5_1)] ((dDeterminize x0).1.2.2), Ch.blk (w.heap.size) [v0_0, .int .i64 x0.2.1, .int .i64 x0.2.2.1, v0_1, .bool x0.2.2.2.2] 40] from S9.out.call hs)
  clear hs
  clear c8_0 z8_0 c8_1 z8_1 c8_2 z8_2
  have c10_0 := S10.out.cell 0 rfl; have z10_0 := (S10.out.heap 0 rfl).2.2
  have c10_1 := S10.out.cell 3 rfl; have z10_1 := (S10.out.heap 3 rfl).2.2
  have c10_2 := S10.out.cell 6 rfl; have z10_2 := (S10.out.heap 6 rfl).2.2
  have c10_3 := S10.out.cell 9 rfl; have z10_3 := (S10.out.heap 9 rfl).2.2
  go_wp2_with fail
  have HK := hid (show ∀ W, St w W [Ch.blk (w5.heap.size) [.int .i64 (dDeterminize x0).1.1, (.slice a_rg7_0 ((dDeterminize x0).1.2.1).length p_rg7_0), (.slice a_rg7_1 ((dDeterminize x0).1.2.2).length p_rg7_1)] 45, Ch.own rBoolS [(.slice a_rg7_0 ((dDeterminize x0).1.2.1).length p_rg7_0)] ((dDeterminize x0).1.2.1), Ch.own rIntSS [(.slice a_rg7_1 ((dDeterminize x0).1.2.2).length p_rg7_1)] ((dDeterminize x0).1.2.2), Ch.blk (w4.heap.size) [(.slice a_x0n0 x0.1.length p_x0n0), .int .i64 x0.2.1, .int .i64 x0.2.2.1, (.slice a_x0n1 x0.2.2.2.1.length p_x0n1), .bool x0.2.2.2.2] 48, Ch.own rIntS [(.slice a_x0n0 x0.1.length p_x0n0)] x0.1, Ch.own rIntS [(.slice a_x0n1 x0.2.2.2.1.length p_x0n1)] x0.2.2.2.1, Ch.blk (w3.heap.size) [.int .i64 (dDeterminize x0).1.1, (.slice a_rw5_0 ((dDeterminize x0).1.2.1).length p_rw5_0), (.slice a_rw5_1 ((dDeterminize x0).1.2.2).length p_rw5_1)] 45, Ch.own rBoolS [(.slice a_rw5_0 ((dDeterminize x0).1.2.1).length p_rw5_0)] ((dDeterminize x0).1.2.1), Ch.own rIntSS [(.slice a_rw5_1 ((dDeterminize x0).1.2.2).length p_rw5_1)] ((dDeterminize x0).1.2.2), Ch.blk (w.heap.size) [v0_0, .int .i64 x0.2.1, .int .i64 x0.2.2.1, v0_1, .bool x0.2.2.2.2] 40] → (fun w' => St w w' [Ch.blk (w5.heap.size) [.int .i64 (dDeterminize x0).1.1, (.slice a_rg7_0 ((dDeterminize x0).1.2.1).length p_rg7_0), (.slice a_rg7_1 ((dDeterminize x0).1.2.2).length p_rg7_1)] 45, Ch.own rBoolS [(.slice a_rg7_0 ((dDeterminize x0).1.2.1).length p_rg7_0)] ((dDeterminize x0).1.2.1), Ch.own rIntSS [(.slice a_rg7_1 ((dDeterminize x0).1.2.2).length p_rg7_1)] ((dDeterminize x0).1.2.2), Ch.blk (w4.heap.size) [(.slice a_x0n0 x0.1.length p_x0n0), .int .i64 x0.2.1, .int .i64 x0.2.2.1, (.slice a_x0n1 x0.2.2.2.1.length p_x0n1), .bool x0.2.2.2.2] 48, Ch.own rIntS [(.slice a_x0n0 x0.1.length p_x0n0)] x0.1, Ch.own rIntS [(.slice a_x0n1 x0.2.2.2.1.length p_x0n1)] x0.2.2.2.1, Ch.blk (w3.heap.size) [.int .i64 (dDeterminize x0).1.1, (.slice a_rw5_0 ((dDeterminize x0).1.2.1).length p_rw5_0), (.slice a_rw5_1 ((dDeterminize x0).1.2.2).length p_rw5_1)] 45, Ch.own rBoolS [(.slice a_rw5_0 ((dDeterminize x0).1.2.1).length p_rw5_0)] ((dDeterminize x0).1.2.1), Ch.own rIntSS [(.slice a_rw5_1 ((dDeterminize x0).1.2.2).length p_rw5_1)] ((dDeterminize x0).1.2.2), Ch.blk (w.heap.size) [v0_0, .int .i64 x0.2.1, .int .i64 x0.2.2.1, v0_1, .bool x0.2.2.2.2] 40] ∧ (∀ j, w'.cell? ⟨w5.heap.size, j, none⟩ = ([.int .i64 (dDeterminize x0).1.1, (.slice a_rg7_0 ((dDeterminize x0).1.2.1).length p_rg7_0), (.slice a_rg7_1 ((dDeterminize x0).1.2.2).length p_rg7_1)] : List Value)[j]?) ∧ (∀ j, w'.cell? ⟨w4.heap.size, j, none⟩ = ([(.slice a_x0n0 x0.1.length p_x0n0), .int .i64 x0.2.1, .int .i64 x0.2.2.1, (.slice a_x0n1 x0.2.2.2.1.length p_x0n1), .bool x0.2.2.2.2] : List Value)[j]?) ∧ (∀ j, w'.cell? ⟨w3.heap.size, j, none⟩ = ([.int .i64 (dDeterminize x0).1.1, (.slice a_rw5_0 ((dDeterminize x0).1.2.1).length p_rw5_0), (.slice a_rw5_1 ((dDeterminize x0).1.2.2).length p_rw5_1)] : List Value)[j]?) ∧ (∀ j, w'.cell? ⟨w.heap.size, j, none⟩ = ([v0_0, .int .i64 x0.2.1, .int .i64 x0.2.2.1, v0_1, .bool x0.2.2.2.2] : List Value)[j]?)) W from fun W h => ⟨h, h.cell 0 rfl, h.cell 3 rfl, h.cell 6 rfl, h.cell 9 rfl⟩)
  go_region_held3 (fun w' => St w w' [Ch.blk (w5.heap.size) [.int .i64 (dDeterminize x0).1.1, (.slice a_rg7_0 ((dDeterminize x0).1.2.1).length p_rg7_0), (.slice a_rg7_1 ((dDeterminize x0).1.2.2).length p_rg7_1)] 45, Ch.own rBoolS [(.slice a_rg7_0 ((dDeterminize x0).1.2.1).length p_rg7_0)] ((dDeterminize x0).1.2.1), Ch.own rIntSS [(.slice a_rg7_1 ((dDeterminize x0).1.2.2).length p_rg7_1)] ((dDeterminize x0).1.2.2), Ch.blk (w4.heap.size) [(.slice a_x0n0 x0.1.length p_x0n0), .int .i64 x0.2.1, .int .i64 x0.2.2.1, (.slice a_x0n1 x0.2.2.2.1.length p_x0n1), .bool x0.2.2.2.2] 48, Ch.own rIntS [(.slice a_x0n0 x0.1.length p_x0n0)] x0.1, Ch.own rIntS [(.slice a_x0n1 x0.2.2.2.1.length p_x0n1)] x0.2.2.2.1, Ch.blk (w3.heap.size) [.int .i64 (dDeterminize x0).1.1, (.slice a_rw5_0 ((dDeterminize x0).1.2.1).length p_rw5_0), (.slice a_rw5_1 ((dDeterminize x0).1.2.2).length p_rw5_1)] 45, Ch.own rBoolS [(.slice a_rw5_0 ((dDeterminize x0).1.2.1).length p_rw5_0)] ((dDeterminize x0).1.2.1), Ch.own rIntSS [(.slice a_rw5_1 ((dDeterminize x0).1.2.2).length p_rw5_1)] ((dDeterminize x0).1.2.2), Ch.blk (w.heap.size) [v0_0, .int .i64 x0.2.1, .int .i64 x0.2.2.1, v0_1, .bool x0.2.2.2.2] 40] ∧ (∀ j, w'.cell? ⟨w5.heap.size, j, none⟩ = ([.int .i64 (dDeterminize x0).1.1, (.slice a_rg7_0 ((dDeterminize x0).1.2.1).length p_rg7_0), (.slice a_rg7_1 ((dDeterminize x0).1.2.2).length p_rg7_1)] : List Value)[j]?) ∧ (∀ j, w'.cell? ⟨w4.heap.size, j, none⟩ = ([(.slice a_x0n0 x0.1.length p_x0n0), .int .i64 x0.2.1, .int .i64 x0.2.2.1, (.slice a_x0n1 x0.2.2.2.1.length p_x0n1), .bool x0.2.2.2.2] : List Value)[j]?) ∧ (∀ j, w'.cell? ⟨w3.heap.size, j, none⟩ = ([.int .i64 (dDeterminize x0).1.1, (.slice a_rw5_0 ((dDeterminize x0).1.2.1).length p_rw5_0), (.slice a_rw5_1 ((dDeterminize x0).1.2.2).length p_rw5_1)] : List Value)[j]?) ∧ (∀ j, w'.cell? ⟨w.heap.size, j, none⟩ = ([v0_0, .int .i64 x0.2.1, .int .i64 x0.2.2.1, v0_1, .bool x0.2.2.2.2] : List Value)[j]?)) (first | exact HK.out _ S10.out.drew | exact HK.out _ (held_any (by assumption) (by assumption))) (first | (go_at_call 15; refine (toPositions_any v0_0 v0_1 x0 _ o0_0 o0_1 ?_ ?_ Nx0.out).mono ?_; exact arg_any (by assumption) h0_0; exact arg_any (by assumption) h0_1; rintro e w7 ⟨t2_0, t2_1, rfl, ht2⟩) | (go_at_call 18; refine (eqPositions_any (.slice a_x0n0 x0.1.length p_x0n0) (.slice a_x0n1 x0.2.2.2.1.length p_x0n1) t2_0 t2_1 x0 x0 _ ?_ ?_ ?_ ?_).mono ?_; exact rd_any (by assumption) 4 rfl; exact rd_any (by assumption) 5 rfl; exact ht2.rd 0 rfl; exact ht2.rd 1 rfl; rintro e w8 ⟨rfl, hr11⟩; rw [decide_eq_true rfl]))
  clear HK
  have SA := hid (show St w w8 [Ch.blk (w5.heap.size) [.int .i64 (dDeterminize x0).1.1, (.slice a_rg7_0 ((dDeterminize x0).1.2.1).length p_rg7_0), (.slice a_rg7_1 ((dDeterminize x0).1.2.2).length p_rg7_1)] 45, Ch.own rBoolS [(.slice a_rg7_0 ((dDeterminize x0).1.2.1).length p_rg7_0)] ((dDeterminize x0).1.2.1), Ch.own rIntSS [(.slice a_rg7_1 ((dDeterminize x0).1.2.2).length p_rg7_1)] ((dDeterminize x0).1.2.2), Ch.blk (w4.heap.size) [(.slice a_x0n0 x0.1.length p_x0n0), .int .i64 x0.2.1, .int .i64 x0.2.2.1, (.slice a_x0n1 x0.2.2.2.1.length p_x0n1), .bool x0.2.2.2.2] 48, Ch.own rIntS [(.slice a_x0n0 x0.1.length p_x0n0)] x0.1, Ch.own rIntS [(.slice a_x0n1 x0.2.2.2.1.length p_x0n1)] x0.2.2.2.1, Ch.blk (w3.heap.size) [.int .i64 (dDeterminize x0).1.1, (.slice a_rw5_0 ((dDeterminize x0).1.2.1).length p_rw5_0), (.slice a_rw5_1 ((dDeterminize x0).1.2.2).length p_rw5_1)] 45, Ch.own rBoolS [(.slice a_rw5_0 ((dDeterminize x0).1.2.1).length p_rw5_0)] ((dDeterminize x0).1.2.1), Ch.own rIntSS [(.slice a_rw5_1 ((dDeterminize x0).1.2.2).length p_rw5_1)] ((dDeterminize x0).1.2.2), Ch.blk (w.heap.size) [v0_0, .int .i64 x0.2.1, .int .i64 x0.2.2.1, v0_1, .bool x0.2.2.2.2] 40] from And.left (by assumption))
  clear ht2 hr11
  have S11 := SA; clear SA
  clear c10_0 z10_0 c10_1 z10_1 c10_2 z10_2 c10_3 z10_3
  have c11_0 := S11.out.cell 0 rfl; have z11_0 := (S11.out.heap 0 rfl).2.2
  have c11_1 := S11.out.cell 3 rfl; have z11_1 := (S11.out.heap 3 rfl).2.2
  have c11_2 := S11.out.cell 6 rfl; have z11_2 := (S11.out.heap 6 rfl).2.2
  have c11_3 := S11.out.cell 9 rfl; have z11_3 := (S11.out.heap 9 rfl).2.2
  go_wp2_with fail
  have hcn15 := (show cnPositions x0 ≤ 8388608 from by have h1 := cnle_Positions x0; have h2 := Nx0.out; omega)
  refine (markPositions_any (.slice a_x0n0 x0.1.length p_x0n0) (.slice a_x0n1 x0.2.2.2.1.length p_x0n1) x0 (1 : Int) w _ _ (show St w _ (Ch.own rIntS [(.slice a_x0n0 x0.1.length p_x0n0)] x0.1 :: Ch.own rIntS [(.slice a_x0n1 x0.2.2.2.1.length p_x0n1)] x0.2.2.2.1 :: [Ch.blk (w5.heap.size) [.int .i64 (dDeterminize x0).1.1, (.slice a_rg7_0 ((dDeterminize x0).1.2.1).length p_rg7_0), (.slice a_rg7_1 ((dDeterminize x0).1.2.2).length p_rg7_1)] 45, Ch.own rBoolS [(.slice a_rg7_0 ((dDeterminize x0).1.2.1).length p_rg7_0)] ((dDeterminize x0).1.2.1), Ch.own rIntSS [(.slice a_rg7_1 ((dDeterminize x0).1.2.2).length p_rg7_1)] ((dDeterminize x0).1.2.2), Ch.blk (w4.heap.size) [(.slice a_x0n0 x0.1.length p_x0n0), .int .i64 x0.2.1, .int .i64 x0.2.2.1, (.slice a_x0n1 x0.2.2.2.1.length p_x0n1), .bool x0.2.2.2.2] 48, Ch.blk (w3.heap.size) [.int .i64 (dDeterminize x0).1.1, (.slice a_rw5_0 ((dDeterminize x0).1.2.1).length p_rw5_0), (.slice a_rw5_1 ((dDeterminize x0).1.2.2).length p_rw5_1)] 45, Ch.own rBoolS [(.slice a_rw5_0 ((dDeterminize x0).1.2.1).length p_rw5_0)] ((dDeterminize x0).1.2.1), Ch.own rIntSS [(.slice a_rw5_1 ((dDeterminize x0).1.2.2).length p_rw5_1)] ((dDeterminize x0).1.2.2), Ch.blk (w.heap.size) [v0_0, .int .i64 x0.2.1, .int .i64 x0.2.2.1, v0_1, .bool x0.2.2.2.2] 40]) from S11.out.sel 10 [4, 5, 0, 1, 2, 3, 6, 7, 8, 9] rfl (by decide)) (by omega) (by omega)).mono ?_
  rintro e w9 ⟨rfl, hs⟩
  have S12 := hid (show St w w9 [Ch.own rIntS [(.slice a_x0n0 x0.1.length p_x0n0)] ((mkPositions (1 : Int) x0).1), Ch.own rIntS [(.slice a_x0n1 x0.2.2.2.1.length p_x0n1)] ((mkPositions (1 : Int) x0).2.2.2.1), Ch.blk (w5.heap.size) [.int .i64 (dDeterminize x0).1.1, (.slice a_rg7_0 ((dDeterminize x0).1.2.1).length p_rg7_0), (.slice a_rg7_1 ((dDeterminize x0).1.2.2).length p_rg7_1)] 45, Ch.own rBoolS [(.slice a_rg7_0 ((dDeterminize x0).1.2.1).length p_rg7_0)] ((dDeterminize x0).1.2.1), Ch.own rIntSS [(.slice a_rg7_1 ((dDeterminize x0).1.2.2).length p_rg7_1)] ((dDeterminize x0).1.2.2), Ch.blk (w4.heap.size) [(.slice a_x0n0 x0.1.length p_x0n0), .int .i64 x0.2.1, .int .i64 x0.2.2.1, (.slice a_x0n1 x0.2.2.2.1.length p_x0n1), .bool x0.2.2.2.2] 48, Ch.blk (w3.heap.size) [.int .i64 (dDeterminize x0).1.1, (.slice a_rw5_0 ((dDeterminize x0).1.2.1).length p_rw5_0), (.slice a_rw5_1 ((dDeterminize x0).1.2.2).length p_rw5_1)] 45, Ch.own rBoolS [(.slice a_rw5_0 ((dDeterminize x0).1.2.1).length p_rw5_0)] ((dDeterminize x0).1.2.1), Ch.own rIntSS [(.slice a_rw5_1 ((dDeterminize x0).1.2.2).length p_rw5_1)] ((dDeterminize x0).1.2.2), Ch.blk (w.heap.size) [v0_0, .int .i64 x0.2.1, .int .i64 x0.2.2.1, v0_1, .bool x0.2.2.2.2] 40] from hs)
  clear hs
  clear c11_0 z11_0 c11_1 z11_1 c11_2 z11_2 c11_3 z11_3
  have c12_0 := S12.out.cell 2 rfl; have z12_0 := (S12.out.heap 2 rfl).2.2
  have c12_1 := S12.out.cell 5 rfl; have z12_1 := (S12.out.heap 5 rfl).2.2
  have c12_2 := S12.out.cell 6 rfl; have z12_2 := (S12.out.heap 6 rfl).2.2
  have c12_3 := S12.out.cell 9 rfl; have z12_3 := (S12.out.heap 9 rfl).2.2
  go_wp2_with fail
  refine (eqAutomaton_any (.slice a_rg7_0 ((dDeterminize x0).1.2.1).length p_rg7_0) (.slice a_rg7_1 ((dDeterminize x0).1.2.2).length p_rg7_1) (.slice a_rw5_0 ((dDeterminize x0).1.2.1).length p_rw5_0) (.slice a_rw5_1 ((dDeterminize x0).1.2.2).length p_rw5_1) (dDeterminize x0).1 (dDeterminize x0).1 _ (S12.out.rd 3 rfl) (S12.out.rd 4 rfl) (S12.out.rd 7 rfl) (S12.out.rd 8 rfl)).mono ?_
  rintro e w10 ⟨rfl, hs⟩
  rw [decide_eq_true rfl]
  have S13 := hid (show St w w10 [Ch.own rIntS [(.slice a_x0n0 x0.1.length p_x0n0)] ((mkPositions (1 : Int) x0).1), Ch.own rIntS [(.slice a_x0n1 x0.2.2.2.1.length p_x0n1)] ((mkPositions (1 : Int) x0).2.2.2.1), Ch.blk (w5.heap.size) [.int .i64 (dDeterminize x0).1.1, (.slice a_rg7_0 ((dDeterminize x0).1.2.1).length p_rg7_0), (.slice a_rg7_1 ((dDeterminize x0).1.2.2).length p_rg7_1)] 45, Ch.own rBoolS [(.slice a_rg7_0 ((dDeterminize x0).1.2.1).length p_rg7_0)] ((dDeterminize x0).1.2.1), Ch.own rIntSS [(.slice a_rg7_1 ((dDeterminize x0).1.2.2).length p_rg7_1)] ((dDeterminize x0).1.2.2), Ch.blk (w4.heap.size) [(.slice a_x0n0 x0.1.length p_x0n0), .int .i64 x0.2.1, .int .i64 x0.2.2.1, (.slice a_x0n1 x0.2.2.2.1.length p_x0n1), .bool x0.2.2.2.2] 48, Ch.blk (w3.heap.size) [.int .i64 (dDeterminize x0).1.1, (.slice a_rw5_0 ((dDeterminize x0).1.2.1).length p_rw5_0), (.slice a_rw5_1 ((dDeterminize x0).1.2.2).length p_rw5_1)] 45, Ch.own rBoolS [(.slice a_rw5_0 ((dDeterminize x0).1.2.1).length p_rw5_0)] ((dDeterminize x0).1.2.1), Ch.own rIntSS [(.slice a_rw5_1 ((dDeterminize x0).1.2.2).length p_rw5_1)] ((dDeterminize x0).1.2.2), Ch.blk (w.heap.size) [v0_0, .int .i64 x0.2.1, .int .i64 x0.2.2.1, v0_1, .bool x0.2.2.2.2] 40] from S12.out.call hs)
  clear hs
  clear c12_0 z12_0 c12_1 z12_1 c12_2 z12_2 c12_3 z12_3
  have c13_0 := S13.out.cell 2 rfl; have z13_0 := (S13.out.heap 2 rfl).2.2
  have c13_1 := S13.out.cell 5 rfl; have z13_1 := (S13.out.heap 5 rfl).2.2
  have c13_2 := S13.out.cell 6 rfl; have z13_2 := (S13.out.heap 6 rfl).2.2
  have c13_3 := S13.out.cell 9 rfl; have z13_3 := (S13.out.heap 9 rfl).2.2
  go_wp2_with fail
  have hcn20 := cnbDeterminize0 x0 Nx0.out
  refine (markAutomaton_any (.slice a_rg7_0 ((dDeterminize x0).1.2.1).length p_rg7_0) (.slice a_rg7_1 ((dDeterminize x0).1.2.2).length p_rg7_1) (dDeterminize x0).1 (1 : Int) w _ _ (show St w _ (Ch.own rBoolS [(.slice a_rg7_0 ((dDeterminize x0).1.2.1).length p_rg7_0)] ((dDeterminize x0).1.2.1) :: Ch.own rIntSS [(.slice a_rg7_1 ((dDeterminize x0).1.2.2).length p_rg7_1)] ((dDeterminize x0).1.2.2) :: [Ch.own rIntS [(.slice a_x0n0 x0.1.length p_x0n0)] ((mkPositions (1 : Int) x0).1), Ch.own rIntS [(.slice a_x0n1 x0.2.2.2.1.length p_x0n1)] ((mkPositions (1 : Int) x0).2.2.2.1), Ch.blk (w5.heap.size) [.int .i64 (dDeterminize x0).1.1, (.slice a_rg7_0 ((dDeterminize x0).1.2.1).length p_rg7_0), (.slice a_rg7_1 ((dDeterminize x0).1.2.2).length p_rg7_1)] 45, Ch.blk (w4.heap.size) [(.slice a_x0n0 x0.1.length p_x0n0), .int .i64 x0.2.1, .int .i64 x0.2.2.1, (.slice a_x0n1 x0.2.2.2.1.length p_x0n1), .bool x0.2.2.2.2] 48, Ch.blk (w3.heap.size) [.int .i64 (dDeterminize x0).1.1, (.slice a_rw5_0 ((dDeterminize x0).1.2.1).length p_rw5_0), (.slice a_rw5_1 ((dDeterminize x0).1.2.2).length p_rw5_1)] 45, Ch.own rBoolS [(.slice a_rw5_0 ((dDeterminize x0).1.2.1).length p_rw5_0)] ((dDeterminize x0).1.2.1), Ch.own rIntSS [(.slice a_rw5_1 ((dDeterminize x0).1.2.2).length p_rw5_1)] ((dDeterminize x0).1.2.2), Ch.blk (w.heap.size) [v0_0, .int .i64 x0.2.1, .int .i64 x0.2.2.1, v0_1, .bool x0.2.2.2.2] 40]) from S13.out.sel 10 [3, 4, 0, 1, 2, 5, 6, 7, 8, 9] rfl (by decide)) (by omega) (by omega)).mono ?_
  rintro e w11 ⟨rfl, hs⟩
  have S14 := hid (show St w w11 [Ch.own rBoolS [(.slice a_rg7_0 ((dDeterminize x0).1.2.1).length p_rg7_0)] ((mkAutomaton (1 : Int) ((dDeterminize x0).1)).2.1), Ch.own rIntSS [(.slice a_rg7_1 ((dDeterminize x0).1.2.2).length p_rg7_1)] ((mkAutomaton (1 : Int) ((dDeterminize x0).1)).2.2), Ch.own rIntS [(.slice a_x0n0 x0.1.length p_x0n0)] ((mkPositions (1 : Int) x0).1), Ch.own rIntS [(.slice a_x0n1 x0.2.2.2.1.length p_x0n1)] ((mkPositions (1 : Int) x0).2.2.2.1), Ch.blk (w5.heap.size) [.int .i64 (dDeterminize x0).1.1, (.slice a_rg7_0 ((dDeterminize x0).1.2.1).length p_rg7_0), (.slice a_rg7_1 ((dDeterminize x0).1.2.2).length p_rg7_1)] 45, Ch.blk (w4.heap.size) [(.slice a_x0n0 x0.1.length p_x0n0), .int .i64 x0.2.1, .int .i64 x0.2.2.1, (.slice a_x0n1 x0.2.2.2.1.length p_x0n1), .bool x0.2.2.2.2] 48, Ch.blk (w3.heap.size) [.int .i64 (dDeterminize x0).1.1, (.slice a_rw5_0 ((dDeterminize x0).1.2.1).length p_rw5_0), (.slice a_rw5_1 ((dDeterminize x0).1.2.2).length p_rw5_1)] 45, Ch.own rBoolS [(.slice a_rw5_0 ((dDeterminize x0).1.2.1).length p_rw5_0)] ((dDeterminize x0).1.2.1), Ch.own rIntSS [(.slice a_rw5_1 ((dDeterminize x0).1.2.2).length p_rw5_1)] ((dDeterminize x0).1.2.2), Ch.blk (w.heap.size) [v0_0, .int .i64 x0.2.1, .int .i64 x0.2.2.1, v0_1, .bool x0.2.2.2.2] 40] from hs)
  clear hs
  clear c13_0 z13_0 c13_1 z13_1 c13_2 z13_2 c13_3 z13_3
  have c14_0 := S14.out.cell 4 rfl; have z14_0 := (S14.out.heap 4 rfl).2.2
  have c14_1 := S14.out.cell 5 rfl; have z14_1 := (S14.out.heap 5 rfl).2.2
  have c14_2 := S14.out.cell 6 rfl; have z14_2 := (S14.out.heap 6 rfl).2.2
  have c14_3 := S14.out.cell 9 rfl; have z14_3 := (S14.out.heap 9 rfl).2.2
  go_wp2_with fail
  refine (heldAutomaton_any (.slice a_rg7_0 ((dDeterminize x0).1.2.1).length p_rg7_0) (.slice a_rg7_1 ((dDeterminize x0).1.2.2).length p_rg7_1) (dDeterminize x0).1 (1 : Int) _ (S14.out.rd 0 rfl) (S14.out.rd 1 rfl) (by omega) (by omega)).mono ?_
  rintro e w12 ⟨rfl, hs⟩
  have S15 := hid (show St w w12 [Ch.own rBoolS [(.slice a_rg7_0 ((dDeterminize x0).1.2.1).length p_rg7_0)] ((mkAutomaton (1 : Int) ((dDeterminize x0).1)).2.1), Ch.own rIntSS [(.slice a_rg7_1 ((dDeterminize x0).1.2.2).length p_rg7_1)] ((mkAutomaton (1 : Int) ((dDeterminize x0).1)).2.2), Ch.own rIntS [(.slice a_x0n0 x0.1.length p_x0n0)] ((mkPositions (1 : Int) x0).1), Ch.own rIntS [(.slice a_x0n1 x0.2.2.2.1.length p_x0n1)] ((mkPositions (1 : Int) x0).2.2.2.1), Ch.blk (w5.heap.size) [.int .i64 (dDeterminize x0).1.1, (.slice a_rg7_0 ((dDeterminize x0).1.2.1).length p_rg7_0), (.slice a_rg7_1 ((dDeterminize x0).1.2.2).length p_rg7_1)] 45, Ch.blk (w4.heap.size) [(.slice a_x0n0 x0.1.length p_x0n0), .int .i64 x0.2.1, .int .i64 x0.2.2.1, (.slice a_x0n1 x0.2.2.2.1.length p_x0n1), .bool x0.2.2.2.2] 48, Ch.blk (w3.heap.size) [.int .i64 (dDeterminize x0).1.1, (.slice a_rw5_0 ((dDeterminize x0).1.2.1).length p_rw5_0), (.slice a_rw5_1 ((dDeterminize x0).1.2.2).length p_rw5_1)] 45, Ch.own rBoolS [(.slice a_rw5_0 ((dDeterminize x0).1.2.1).length p_rw5_0)] ((dDeterminize x0).1.2.1), Ch.own rIntSS [(.slice a_rw5_1 ((dDeterminize x0).1.2.2).length p_rw5_1)] ((dDeterminize x0).1.2.2), Ch.blk (w.heap.size) [v0_0, .int .i64 x0.2.1, .int .i64 x0.2.2.1, v0_1, .bool x0.2.2.2.2] 40] from S14.out.call hs)
  clear hs
  clear c14_0 z14_0 c14_1 z14_1 c14_2 z14_2 c14_3 z14_3
  have c15_0 := S15.out.cell 4 rfl; have z15_0 := (S15.out.heap 4 rfl).2.2
  have c15_1 := S15.out.cell 5 rfl; have z15_1 := (S15.out.heap 5 rfl).2.2
  have c15_2 := S15.out.cell 6 rfl; have z15_2 := (S15.out.heap 6 rfl).2.2
  have c15_3 := S15.out.cell 9 rfl; have z15_3 := (S15.out.heap 9 rfl).2.2
  go_wp2_with fail
  refine (toPositions_any v0_0 v0_1 x0 _ o0_0 o0_1 (S15.out.arg h0_0) (S15.out.arg h0_1) Nx0.out).mono ?_
  rintro e w13 ⟨t3_0, t3_1, rfl, hs⟩
  have S16 := hid (show St w w13 [Ch.own rIntS [t3_0] x0.1, Ch.own rIntS [t3_1] x0.2.2.2.1, Ch.own rBoolS [(.slice a_rg7_0 ((dDeterminize x0).1.2.1).length p_rg7_0)] ((mkAutomaton (1 : Int) ((dDeterminize x0).1)).2.1), Ch.own rIntSS [(.slice a_rg7_1 ((dDeterminize x0).1.2.2).length p_rg7_1)] ((mkAutomaton (1 : Int) ((dDeterminize x0).1)).2.2), Ch.own rIntS [(.slice a_x0n0 x0.1.length p_x0n0)] ((mkPositions (1 : Int) x0).1), Ch.own rIntS [(.slice a_x0n1 x0.2.2.2.1.length p_x0n1)] ((mkPositions (1 : Int) x0).2.2.2.1), Ch.blk (w5.heap.size) [.int .i64 (dDeterminize x0).1.1, (.slice a_rg7_0 ((dDeterminize x0).1.2.1).length p_rg7_0), (.slice a_rg7_1 ((dDeterminize x0).1.2.2).length p_rg7_1)] 45, Ch.blk (w4.heap.size) [(.slice a_x0n0 x0.1.length p_x0n0), .int .i64 x0.2.1, .int .i64 x0.2.2.1, (.slice a_x0n1 x0.2.2.2.1.length p_x0n1), .bool x0.2.2.2.2] 48, Ch.blk (w3.heap.size) [.int .i64 (dDeterminize x0).1.1, (.slice a_rw5_0 ((dDeterminize x0).1.2.1).length p_rw5_0), (.slice a_rw5_1 ((dDeterminize x0).1.2.2).length p_rw5_1)] 45, Ch.own rBoolS [(.slice a_rw5_0 ((dDeterminize x0).1.2.1).length p_rw5_0)] ((dDeterminize x0).1.2.1), Ch.own rIntSS [(.slice a_rw5_1 ((dDeterminize x0).1.2.2).length p_rw5_1)] ((dDeterminize x0).1.2.2), Ch.blk (w.heap.size) [v0_0, .int .i64 x0.2.1, .int .i64 x0.2.2.1, v0_1, .bool x0.2.2.2.2] 40] from S15.out.call hs)
  clear hs
  obtain ⟨a_t3_0, p_t3_0, rfl⟩ := S16.out.hdr (R := rInt) 0 rfl
  obtain ⟨a_t3_1, p_t3_1, rfl⟩ := S16.out.hdr (R := rInt) 1 rfl
  clear c15_0 z15_0 c15_1 z15_1 c15_2 z15_2 c15_3 z15_3
  have c16_0 := S16.out.cell 6 rfl; have z16_0 := (S16.out.heap 6 rfl).2.2
  have c16_1 := S16.out.cell 7 rfl; have z16_1 := (S16.out.heap 7 rfl).2.2
  have c16_2 := S16.out.cell 8 rfl; have z16_2 := (S16.out.heap 8 rfl).2.2
  have c16_3 := S16.out.cell 11 rfl; have z16_3 := (S16.out.heap 11 rfl).2.2
  go_wp2_with fail
  refine (iDeterminize_any (.slice a_t3_0 x0.1.length p_t3_0) (.slice a_t3_1 x0.2.2.2.1.length p_t3_1) x0 _ o0_0 o0_1 (S16.out.rd 0 rfl) (S16.out.rd 1 rfl) Nx0.out).mono ?_
  rintro e w14 ⟨rg29_0, rg29_1, rfl, hs⟩
  have S17 := hid (show St w w14 [Ch.own rBoolS [rg29_0] ((dDeterminize x0).1.2.1), Ch.own rIntSS [rg29_1] ((dDeterminize x0).1.2.2), Ch.own rIntS [(.slice a_t3_0 x0.1.length p_t3_0)] x0.1, Ch.own rIntS [(.slice a_t3_1 x0.2.2.2.1.length p_t3_1)] x0.2.2.2.1, Ch.own rBoolS [(.slice a_rg7_0 ((dDeterminize x0).1.2.1).length p_rg7_0)] ((mkAutomaton (1 : Int) ((dDeterminize x0).1)).2.1), Ch.own rIntSS [(.slice a_rg7_1 ((dDeterminize x0).1.2.2).length p_rg7_1)] ((mkAutomaton (1 : Int) ((dDeterminize x0).1)).2.2), Ch.own rIntS [(.slice a_x0n0 x0.1.length p_x0n0)] ((mkPositions (1 : Int) x0).1), Ch.own rIntS [(.slice a_x0n1 x0.2.2.2.1.length p_x0n1)] ((mkPositions (1 : Int) x0).2.2.2.1), Ch.blk (w5.heap.size) [.int .i64 (dDeterminize x0).1.1, (.slice a_rg7_0 ((dDeterminize x0).1.2.1).length p_rg7_0), (.slice a_rg7_1 ((dDeterminize x0).1.2.2).length p_rg7_1)] 45, Ch.blk (w4.heap.size) [(.slice a_x0n0 x0.1.length p_x0n0), .int .i64 x0.2.1, .int .i64 x0.2.2.1, (.slice a_x0n1 x0.2.2.2.1.length p_x0n1), .bool x0.2.2.2.2] 48, Ch.blk (w3.heap.size) [.int .i64 (dDeterminize x0).1.1, (.slice a_rw5_0 ((dDeterminize x0).1.2.1).length p_rw5_0), (.slice a_rw5_1 ((dDeterminize x0).1.2.2).length p_rw5_1)] 45, Ch.own rBoolS [(.slice a_rw5_0 ((dDeterminize x0).1.2.1).length p_rw5_0)] ((dDeterminize x0).1.2.1), Ch.own rIntSS [(.slice a_rw5_1 ((dDeterminize x0).1.2.2).length p_rw5_1)] ((dDeterminize x0).1.2.2), Ch.blk (w.heap.size) [v0_0, .int .i64 x0.2.1, .int .i64 x0.2.2.1, v0_1, .bool x0.2.2.2.2] 40] from S16.out.call hs)
  clear hs
  obtain ⟨a_rg29_0, p_rg29_0, rfl⟩ := S17.out.hdr (R := rBool) 0 rfl
  obtain ⟨a_rg29_1, p_rg29_1, rfl⟩ := S17.out.hdr (R := rIntS) 1 rfl
  have S18 := hid (show St w w14 [Ch.own rBoolS [(.slice a_rg29_0 ((dDeterminize x0).1.2.1).length p_rg29_0)] ((dDeterminize x0).1.2.1), Ch.own rIntSS [(.slice a_rg29_1 ((dDeterminize x0).1.2.2).length p_rg29_1)] ((dDeterminize x0).1.2.2), Ch.own rBoolS [(.slice a_rg7_0 ((dDeterminize x0).1.2.1).length p_rg7_0)] ((mkAutomaton (1 : Int) ((dDeterminize x0).1)).2.1), Ch.own rIntSS [(.slice a_rg7_1 ((dDeterminize x0).1.2.2).length p_rg7_1)] ((mkAutomaton (1 : Int) ((dDeterminize x0).1)).2.2), Ch.own rIntS [(.slice a_x0n0 x0.1.length p_x0n0)] ((mkPositions (1 : Int) x0).1), Ch.own rIntS [(.slice a_x0n1 x0.2.2.2.1.length p_x0n1)] ((mkPositions (1 : Int) x0).2.2.2.1), Ch.blk (w5.heap.size) [.int .i64 (dDeterminize x0).1.1, (.slice a_rg7_0 ((dDeterminize x0).1.2.1).length p_rg7_0), (.slice a_rg7_1 ((dDeterminize x0).1.2.2).length p_rg7_1)] 45, Ch.blk (w4.heap.size) [(.slice a_x0n0 x0.1.length p_x0n0), .int .i64 x0.2.1, .int .i64 x0.2.2.1, (.slice a_x0n1 x0.2.2.2.1.length p_x0n1), .bool x0.2.2.2.2] 48, Ch.blk (w3.heap.size) [.int .i64 (dDeterminize x0).1.1, (.slice a_rw5_0 ((dDeterminize x0).1.2.1).length p_rw5_0), (.slice a_rw5_1 ((dDeterminize x0).1.2.2).length p_rw5_1)] 45, Ch.own rBoolS [(.slice a_rw5_0 ((dDeterminize x0).1.2.1).length p_rw5_0)] ((dDeterminize x0).1.2.1), Ch.own rIntSS [(.slice a_rw5_1 ((dDeterminize x0).1.2.2).length p_rw5_1)] ((dDeterminize x0).1.2.2), Ch.blk (w.heap.size) [v0_0, .int .i64 x0.2.1, .int .i64 x0.2.2.1, v0_1, .bool x0.2.2.2.2] 40] from S17.out.sel 14 [0, 1, 4, 5, 6, 7, 8, 9, 10, 11, 12, 13] rfl (by decide))
  clear c16_0 z16_0 c16_1 z16_1 c16_2 z16_2 c16_3 z16_3
  have c18_0 := S18.out.cell 6 rfl; have z18_0 := (S18.out.heap 6 rfl).2.2
  have c18_1 := S18.out.cell 7 rfl; have z18_1 := (S18.out.heap 7 rfl).2.2
  have c18_2 := S18.out.cell 8 rfl; have z18_2 := (S18.out.heap 8 rfl).2.2
  have c18_3 := S18.out.cell 11 rfl; have z18_3 := (S18.out.heap 11 rfl).2.2
  go_wp2_with fail
  have S19 := hid (show St w (w14.alloc (.cells #[.int .i64 (dDeterminize x0).1.1, (.slice a_rg29_0 ((dDeterminize x0).1.2.1).length p_rg29_0), (.slice a_rg29_1 ((dDeterminize x0).1.2.2).length p_rg29_1)] 45)) [Ch.blk (w14.heap.size) [.int .i64 (dDeterminize x0).1.1, (.slice a_rg29_0 ((dDeterminize x0).1.2.1).length p_rg29_0), (.slice a_rg29_1 ((dDeterminize x0).1.2.2).length p_rg29_1)] 45, Ch.own rBoolS [(.slice a_rg29_0 ((dDeterminize x0).1.2.1).length p_rg29_0)] ((dDeterminize x0).1.2.1), Ch.own rIntSS [(.slice a_rg29_1 ((dDeterminize x0).1.2.2).length p_rg29_1)] ((dDeterminize x0).1.2.2), Ch.own rBoolS [(.slice a_rg7_0 ((dDeterminize x0).1.2.1).length p_rg7_0)] ((mkAutomaton (1 : Int) ((dDeterminize x0).1)).2.1), Ch.own rIntSS [(.slice a_rg7_1 ((dDeterminize x0).1.2.2).length p_rg7_1)] ((mkAutomaton (1 : Int) ((dDeterminize x0).1)).2.2), Ch.own rIntS [(.slice a_x0n0 x0.1.length p_x0n0)] ((mkPositions (1 : Int) x0).1), Ch.own rIntS [(.slice a_x0n1 x0.2.2.2.1.length p_x0n1)] ((mkPositions (1 : Int) x0).2.2.2.1), Ch.blk (w5.heap.size) [.int .i64 (dDeterminize x0).1.1, (.slice a_rg7_0 ((dDeterminize x0).1.2.1).length p_rg7_0), (.slice a_rg7_1 ((dDeterminize x0).1.2.2).length p_rg7_1)] 45, Ch.blk (w4.heap.size) [(.slice a_x0n0 x0.1.length p_x0n0), .int .i64 x0.2.1, .int .i64 x0.2.2.1, (.slice a_x0n1 x0.2.2.2.1.length p_x0n1), .bool x0.2.2.2.2] 48, Ch.blk (w3.heap.size) [.int .i64 (dDeterminize x0).1.1, (.slice a_rw5_0 ((dDeterminize x0).1.2.1).length p_rw5_0), (.slice a_rw5_1 ((dDeterminize x0).1.2.2).length p_rw5_1)] 45, Ch.own rBoolS [(.slice a_rw5_0 ((dDeterminize x0).1.2.1).length p_rw5_0)] ((dDeterminize x0).1.2.1), Ch.own rIntSS [(.slice a_rw5_1 ((dDeterminize x0).1.2.2).length p_rw5_1)] ((dDeterminize x0).1.2.2), Ch.blk (w.heap.size) [v0_0, .int .i64 x0.2.1, .int .i64 x0.2.2.1, v0_1, .bool x0.2.2.2.2] 40] from S18.out.alloc [.int .i64 (dDeterminize x0).1.1, (.slice a_rg29_0 ((dDeterminize x0).1.2.1).length p_rg29_0), (.slice a_rg29_1 ((dDeterminize x0).1.2.2).length p_rg29_1)] 45)
  refine (eqAutomaton_any (.slice a_rg29_0 ((dDeterminize x0).1.2.1).length p_rg29_0) (.slice a_rg29_1 ((dDeterminize x0).1.2.2).length p_rg29_1) (.slice a_rw5_0 ((dDeterminize x0).1.2.1).length p_rw5_0) (.slice a_rw5_1 ((dDeterminize x0).1.2.2).length p_rw5_1) (dDeterminize x0).1 (dDeterminize x0).1 _ (S19.out.rd 1 rfl) (S19.out.rd 2 rfl) (S19.out.rd 10 rfl) (S19.out.rd 11 rfl)).mono ?_
  rintro e w15 ⟨rfl, hs⟩
  rw [decide_eq_true rfl]
  have S20 := hid (show St w w15 [Ch.blk (w14.heap.size) [.int .i64 (dDeterminize x0).1.1, (.slice a_rg29_0 ((dDeterminize x0).1.2.1).length p_rg29_0), (.slice a_rg29_1 ((dDeterminize x0).1.2.2).length p_rg29_1)] 45, Ch.own rBoolS [(.slice a_rg29_0 ((dDeterminize x0).1.2.1).length p_rg29_0)] ((dDeterminize x0).1.2.1), Ch.own rIntSS [(.slice a_rg29_1 ((dDeterminize x0).1.2.2).length p_rg29_1)] ((dDeterminize x0).1.2.2), Ch.own rBoolS [(.slice a_rg7_0 ((dDeterminize x0).1.2.1).length p_rg7_0)] ((mkAutomaton (1 : Int) ((dDeterminize x0).1)).2.1), Ch.own rIntSS [(.slice a_rg7_1 ((dDeterminize x0).1.2.2).length p_rg7_1)] ((mkAutomaton (1 : Int) ((dDeterminize x0).1)).2.2), Ch.own rIntS [(.slice a_x0n0 x0.1.length p_x0n0)] ((mkPositions (1 : Int) x0).1), Ch.own rIntS [(.slice a_x0n1 x0.2.2.2.1.length p_x0n1)] ((mkPositions (1 : Int) x0).2.2.2.1), Ch.blk (w5.heap.size) [.int .i64 (dDeterminize x0).1.1, (.slice a_rg7_0 ((dDeterminize x0).1.2.1).length p_rg7_0), (.slice a_rg7_1 ((dDeterminize x0).1.2.2).length p_rg7_1)] 45, Ch.blk (w4.heap.size) [(.slice a_x0n0 x0.1.length p_x0n0), .int .i64 x0.2.1, .int .i64 x0.2.2.1, (.slice a_x0n1 x0.2.2.2.1.length p_x0n1), .bool x0.2.2.2.2] 48, Ch.blk (w3.heap.size) [.int .i64 (dDeterminize x0).1.1, (.slice a_rw5_0 ((dDeterminize x0).1.2.1).length p_rw5_0), (.slice a_rw5_1 ((dDeterminize x0).1.2.2).length p_rw5_1)] 45, Ch.own rBoolS [(.slice a_rw5_0 ((dDeterminize x0).1.2.1).length p_rw5_0)] ((dDeterminize x0).1.2.1), Ch.own rIntSS [(.slice a_rw5_1 ((dDeterminize x0).1.2.2).length p_rw5_1)] ((dDeterminize x0).1.2.2), Ch.blk (w.heap.size) [v0_0, .int .i64 x0.2.1, .int .i64 x0.2.2.1, v0_1, .bool x0.2.2.2.2] 40] from S19.out.call hs)
  clear hs
  clear c18_0 z18_0 c18_1 z18_1 c18_2 z18_2 c18_3 z18_3
  have c20_0 := S20.out.cell 0 rfl; have z20_0 := (S20.out.heap 0 rfl).2.2
  have c20_1 := S20.out.cell 7 rfl; have z20_1 := (S20.out.heap 7 rfl).2.2
  have c20_2 := S20.out.cell 8 rfl; have z20_2 := (S20.out.heap 8 rfl).2.2
  have c20_3 := S20.out.cell 9 rfl; have z20_3 := (S20.out.heap 9 rfl).2.2
  have c20_4 := S20.out.cell 12 rfl; have z20_4 := (S20.out.heap 12 rfl).2.2
  go_wp2_with fail
  refine (heldAutomaton_any (.slice a_rg7_0 ((dDeterminize x0).1.2.1).length p_rg7_0) (.slice a_rg7_1 ((dDeterminize x0).1.2.2).length p_rg7_1) (dDeterminize x0).1 (1 : Int) _ (S20.out.rd 3 rfl) (S20.out.rd 4 rfl) (by omega) (by omega)).mono ?_
  rintro e w16 ⟨rfl, hs⟩
  have S21 := hid (show St w w16 [Ch.blk (w14.heap.size) [.int .i64 (dDeterminize x0).1.1, (.slice a_rg29_0 ((dDeterminize x0).1.2.1).length p_rg29_0), (.slice a_rg29_1 ((dDeterminize x0).1.2.2).length p_rg29_1)] 45, Ch.own rBoolS [(.slice a_rg29_0 ((dDeterminize x0).1.2.1).length p_rg29_0)] ((dDeterminize x0).1.2.1), Ch.own rIntSS [(.slice a_rg29_1 ((dDeterminize x0).1.2.2).length p_rg29_1)] ((dDeterminize x0).1.2.2), Ch.own rBoolS [(.slice a_rg7_0 ((dDeterminize x0).1.2.1).length p_rg7_0)] ((mkAutomaton (1 : Int) ((dDeterminize x0).1)).2.1), Ch.own rIntSS [(.slice a_rg7_1 ((dDeterminize x0).1.2.2).length p_rg7_1)] ((mkAutomaton (1 : Int) ((dDeterminize x0).1)).2.2), Ch.own rIntS [(.slice a_x0n0 x0.1.length p_x0n0)] ((mkPositions (1 : Int) x0).1), Ch.own rIntS [(.slice a_x0n1 x0.2.2.2.1.length p_x0n1)] ((mkPositions (1 : Int) x0).2.2.2.1), Ch.blk (w5.heap.size) [.int .i64 (dDeterminize x0).1.1, (.slice a_rg7_0 ((dDeterminize x0).1.2.1).length p_rg7_0), (.slice a_rg7_1 ((dDeterminize x0).1.2.2).length p_rg7_1)] 45, Ch.blk (w4.heap.size) [(.slice a_x0n0 x0.1.length p_x0n0), .int .i64 x0.2.1, .int .i64 x0.2.2.1, (.slice a_x0n1 x0.2.2.2.1.length p_x0n1), .bool x0.2.2.2.2] 48, Ch.blk (w3.heap.size) [.int .i64 (dDeterminize x0).1.1, (.slice a_rw5_0 ((dDeterminize x0).1.2.1).length p_rw5_0), (.slice a_rw5_1 ((dDeterminize x0).1.2.2).length p_rw5_1)] 45, Ch.own rBoolS [(.slice a_rw5_0 ((dDeterminize x0).1.2.1).length p_rw5_0)] ((dDeterminize x0).1.2.1), Ch.own rIntSS [(.slice a_rw5_1 ((dDeterminize x0).1.2.2).length p_rw5_1)] ((dDeterminize x0).1.2.2), Ch.blk (w.heap.size) [v0_0, .int .i64 x0.2.1, .int .i64 x0.2.2.1, v0_1, .bool x0.2.2.2.2] 40] from S20.out.call hs)
  clear hs
  clear c20_0 z20_0 c20_1 z20_1 c20_2 z20_2 c20_3 z20_3 c20_4 z20_4
  have c21_0 := S21.out.cell 0 rfl; have z21_0 := (S21.out.heap 0 rfl).2.2
  have c21_1 := S21.out.cell 7 rfl; have z21_1 := (S21.out.heap 7 rfl).2.2
  have c21_2 := S21.out.cell 8 rfl; have z21_2 := (S21.out.heap 8 rfl).2.2
  have c21_3 := S21.out.cell 9 rfl; have z21_3 := (S21.out.heap 9 rfl).2.2
  have c21_4 := S21.out.cell 12 rfl; have z21_4 := (S21.out.heap 12 rfl).2.2
  go_wp2
  go_ret
  exact ⟨rfl, S21.out.drop⟩

theorem opInt : Opens Try.prog 3 rInt := opens_int Try.underlying3
theorem opIntS : Opens Try.prog 38 rIntS := opens_slice Try.underlying38 (by kernel_rfl) (by decide) opInt
theorem opBool : Opens Try.prog 4 rBool := opens_bool Try.underlying4
theorem opPositions : Opens Try.prog 40 rPositions := by
  refine opens_struct Try.underlying40 (by kernel_rfl) ?_
  refine opens_next (R := rIntS) (S := (rProd rInt (rProd rInt (rProd rIntS rBool)))) rfl (by kernel_rfl) opIntS ?_
  refine opens_next (R := rInt) (S := (rProd rInt (rProd rIntS rBool))) rfl (by kernel_rfl) opInt ?_
  refine opens_next (R := rInt) (S := (rProd rIntS rBool)) rfl (by kernel_rfl) opInt ?_
  refine opens_next (R := rIntS) (S := rBool) rfl (by kernel_rfl) opIntS ?_
  exact opens_last rfl (by kernel_rfl) opBool
theorem rdLPositions {W : World} {base : Nat} {z : Value} {H : Type} {enc : TypeId × Value → H} {d : DataW H} {p : List MemPlace} (hv : Value.okWide Try.prog W .any base 40 z) (h : DataW.Trod enc Try.prog W 0 (fun _ => true) true 40 z d p) :
    ∃ (x : DPositions) (v0 v1 : Value), z = .agg #[v0, .int .i64 x.2.1, .int .i64 x.2.2.1, v1, .bool x.2.2.2.2] ∧ I64 (x.2.1) ∧ I64 (x.2.2.1) ∧ rIntS.rd W.heap.size W [v0] x.1 ∧ rIntS.rd W.heap.size W [v1] x.2.2.2.1 := by
  obtain ⟨fuel, hf⟩ := h
  obtain ⟨cs, rfl, -⟩ := okWide_struct Try.underlying40 hv
  obtain ⟨x, hx⟩ := opPositions.out enc W _ _ _ hf
  obtain ⟨v0, v1, hcs, kh0, ko0, ko1, kh1⟩ := open_Positions hx
  have hcs' : cs = #[v0, .int .i64 x.2.1, .int .i64 x.2.2.1, v1, .bool x.2.2.2.2] := by apply Array.ext'; exact hcs
  exact ⟨x, v0, v1, by rw [hcs'], ko0, ko1, kh0, kh1⟩

theorem rowLDeterminize (W : World) (args : Array Value) (H : Type) (enc : TypeId × Value → H) (base : Nat) (ds gs : List (DataW H)) (before : List MemPlace)
    (hval : ∀ (j : Nat) t v, Try.f5.params[j]? = some t → args[j]? = some v → Value.okWide Try.prog W .any base t v)
    (hsz : (DataW.weightsEach Try.prog (Try.f5.params.toList ++ []) (ds ++ gs)).all (fun x => decide (x ≤ reachBytes)) = true)
    (hW : DataW.Whole enc Try.prog Try.f5.params.toList Rows.fnExactDeterminizeSpec.vars false W args.toList ds gs before) :
    Calls Try.prog 5 args W fun e W' => ∃ v, e = .returned v ∧ Rows.fnExactDeterminizeSpec.post enc Try.prog Try.f5 false true false false W args v W' := by
  have hW' := hW
  obtain ⟨p, q, hA, hV, rfl, hfz, hnd⟩ := hW
  rw [Try.params5] at hA hval hsz
  obtain ⟨z0, vs0, d0, ds0, p0, q0, hargs, rfl, rfl, h0, r0⟩ := trodAll_cons hA
  obtain ⟨rfl, rfl, rfl⟩ := trodAll_nil r0
  obtain rfl : args = #[z0] := by cases args; simp_all
  obtain ⟨rfl, rfl⟩ := trodVars_none hV
  obtain ⟨x0, v0_0, v0_1, rfl, o0_0, o0_1, h0_0, h0_1⟩ := rdLPositions (hval 0 _ _ rfl rfl) h0
  refine (lawDeterminize_any v0_0 v0_1 x0 W o0_0 o0_1 h0_0 h0_1).mono fun e W' ⟨he, hs⟩ => ?_
  subst he
  exact ⟨_, rfl, law_post (f := Try.f5) (s := Rows.fnExactDeterminizeSpec) 4 Try.underlying4 rfl (by kernel_rfl) rfl hW' rfl rfl rfl hs.below⟩
set_option maxRecDepth 100000 in
theorem liftedLDeterminize (os : Os) (started : os.Started) (H : Type) (enc : TypeId × Value → H) :
    ReturnsInHanded {} Try.checked os 5 .any (Rows.fnExactDeterminizeSpec.pre6 enc Try.prog Try.f5 Rows.fnExactDeterminizeRow.domain false) (Rows.fnExactDeterminizeSpec.post enc Try.prog Try.f5 false true false false) := by
  refine returnsInHanded_of_change_sized (C := Try.checked) own started (by kernel_rfl) Try.func5
    (ChangeSpec.witness6 (enc := enc) (C := Try.checked) false ⟨#[], #[.agg #[.slice none 0 0, .int .i64 0, .int .i64 0, .slice none 0 0, .bool false]], []⟩ 8 (by kernel_rfl) (by kernel_rfl) (by kernel_rfl) (by kernel_rfl)) ?_
  intro W base args ds gs before hval hW hcnd hsz _
  exact rowLDeterminize W args H enc base ds gs before hval hsz hW
theorem holdsLDeterminize : Rows.FnExactDeterminizeSaid :=
  OpenClaim.holds_of_wide 5 Try.f5 rfl rfl rfl rfl rfl rfl rfl ⟨rfl, rfl, rfl, rfl, rfl⟩ rfl rfl rfl rfl rfl (by kernel_rfl) Try.func5 (by kernel_rfl)
    (of_decide_eq_true (by kernel_rfl)) (by unfold Func.isWrapper; first | (rw [if_pos (by decide +kernel)]; kernel_rfl) | (rw [if_neg (by decide +kernel)]; exact ⟨rfl, rfl⟩))
    (fun os started H enc _ => liftedLDeterminize os started H enc)
end Go.Proofs.Ytokiommgielfjaa
