/- Determinize of the reference. -/
import Derived.Test.YtokiommgielfjaaSubsets
import Derived.Test.YtokiommgielfjaaK
set_option linter.unusedVariables false
set_option linter.unusedSimpArgs false
namespace Go.Proofs.Ytokiommgielfjaa
open Go.RowKit
def dDeterminize (x : DPositions) : DAutomaton × Bool := if okPos x = true then dSubsets x 12 else ((0, [], []), false)

set_option maxHeartbeats 4000000 in
theorem sDeterminize_any (v0 v1 : Value) (x : DPositions) (w : World) (o0 : I64 x.2.1) (o1 : I64 x.2.2.1) (h0 : rIntS.rd w.heap.size w [v0] x.1) (h1 : rIntS.rd w.heap.size w [v1] x.2.2.2.1) (_ : szPositions x ≤ 1048576) :
    Calls Try.prog 14 #[.agg #[v0, .int .i64 x.2.1, .int .i64 x.2.2.1, v1, .bool x.2.2.2.2]] w fun e w' => ∃ r0 r1, e = .returned (.tuple #[.agg #[.int .i64 (dDeterminize x).1.1, r0, r1], .bool (dDeterminize x).2]) ∧ St w w' [Ch.own rBoolS [r0] (dDeterminize x).1.2.1, Ch.own rIntSS [r1] (dDeterminize x).1.2.2] := by
  have H0 := hid h0; have H1 := hid h1; clear h0 h1
  have hsz := hid (show (Try.prog.info? 45).map (·.size) = some 3 by kernel_rfl)
  have S0 := hid (show St w ((w.alloc (.cells #[v0, .int .i64 x.2.1, .int .i64 x.2.2.1, v1, .bool x.2.2.2.2] 48)).alloc (.cells #[.int .i64 0, .slice none 0 0, .slice none 0 0] 45)) [Ch.blk (w.heap.size + 1) [.int .i64 0, .slice none 0 0, .slice none 0 0] 45, Ch.blk w.heap.size [v0, .int .i64 x.2.1, .int .i64 x.2.2.1, v1, .bool x.2.2.2.2] 48] from (St.init w).alloc2 _ _ _ _)
  cases hok : okPos x
  · have E := hid (show dDeterminize x = ((0, [], []), false) by unfold dDeterminize; rw [hok]; rfl)
    have HO := hid hok; clear hok
    go_enter Try.func14, Try.ntmps14
    go_wp2_with fail
    refine (sValidPos_any v0 v1 x _ (S0.out.arg H0.out) (S0.out.arg H1.out)).mono ?_
    rintro e w1 ⟨rfl, hs⟩
    have S1 := hid (show St w w1 [Ch.blk (w.heap.size + 1) [.int .i64 0, .slice none 0 0, .slice none 0 0] 45, Ch.blk w.heap.size [v0, .int .i64 x.2.1, .int .i64 x.2.2.1, v1, .bool x.2.2.2.2] 48] from S0.out.call hs); clear hs
    rw [HO.out]
    have c0 := S1.out.cell 0 rfl; have f0 := S1.out.free 0 rfl
    go_wp2
    have fin : ∀ W, St w W [Ch.own rBoolS [.slice none 0 0] [], Ch.own rIntSS [.slice none 0 0] []] → ∃ r0 r1, Ending.returned (.tuple #[.agg #[.int .i64 0, .slice none 0 0, .slice none 0 0], .bool false]) = .returned (.tuple #[.agg #[.int .i64 (dDeterminize x).1.1, r0, r1], .bool (dDeterminize x).2]) ∧ St w W [Ch.own rBoolS [r0] (dDeterminize x).1.2.1, Ch.own rIntSS [r1] (dDeterminize x).1.2.2] := fun W h => ⟨_, _, by rw [E.out], by rw [E.out]; exact h⟩
    have SE := hid (((S1.out.set 0 rfl 0 (.int .i64 0)).set 0 rfl 1 (.slice none 0 0)).set 0 rfl 2 (.slice none 0 0))
    exact bodyPost_ret (v := .tuple #[.agg #[.int .i64 0, .slice none 0 0, .slice none 0 0], .bool false]) (res_cell_tmp (cs := [.int .i64 0, .slice none 0 0, .slice none 0 0]) Try.results14 rfl rfl (SE.out.heap 0 rfl).1 rfl Try.underlying45 hsz.out) rfl (fin _ (St.nilSlice (St.nilSlice SE.out.drop)))
  · have E0 : dDeterminize x = dSubsets x 12 := by unfold dDeterminize; rw [hok]; rfl
    obtain ⟨hn, hm, -⟩ := okPos_iff.1 hok
    obtain ⟨a, A, N, r, hD⟩ : ∃ a A N r, dSubsets x 12 = ((a, A, N), r) := ⟨_, _, _, _, rfl⟩
    have E := hid (E0.trans hD); clear E0
    have HD := hid hD; clear hD
    have HO := hid hok; clear hok
    have HNM := hid (And.intro hn hm); clear hn hm
    go_enter Try.func14, Try.ntmps14
    go_wp2_with fail
    refine (sValidPos_any v0 v1 x _ (S0.out.arg H0.out) (S0.out.arg H1.out)).mono ?_
    rintro e w1 ⟨rfl, hs⟩
    have S1 := hid (show St w w1 [Ch.blk (w.heap.size + 1) [.int .i64 0, .slice none 0 0, .slice none 0 0] 45, Ch.blk w.heap.size [v0, .int .i64 x.2.1, .int .i64 x.2.2.1, v1, .bool x.2.2.2.2] 48] from S0.out.call hs); clear hs
    rw [HO.out]
    have c0 := S1.out.cell 0 rfl; have c1 := S1.out.cell 1 rfl
    go_wp2_with fail
    refine (sSubsets_any v0 v1 x _ (S1.out.arg H0.out) (S1.out.arg H1.out) HNM.out.1 HNM.out.2).mono ?_
    rintro e w2 ⟨r0, r1, rfl, hs⟩
    rw [HD.out] at hs ⊢
    simp only at hs ⊢
    have S2 := hid (show St w w2 [Ch.own rBoolS [r0] A, Ch.own rIntSS [r1] N, Ch.blk (w.heap.size + 1) [.int .i64 0, .slice none 0 0, .slice none 0 0] 45, Ch.blk w.heap.size [v0, .int .i64 x.2.1, .int .i64 x.2.2.1, v1, .bool x.2.2.2.2] 48] from S1.out.call hs); clear hs c0 c1
    obtain ⟨aa, ap, rfl⟩ := S2.out.hdr (R := rBool) 0 rfl
    obtain ⟨na, np, rfl⟩ := S2.out.hdr (R := rIntS) 1 rfl
    have c0 := S2.out.cell 2 rfl; have f0 := S2.out.free 2 rfl; have z0 := (S2.out.heap 2 rfl).2.2
    go_wp2
    have fin : ∀ W, St w W [Ch.own rBoolS [.slice aa A.length ap] A, Ch.own rIntSS [.slice na N.length np] N] → ∃ r0 r1, Ending.returned (.tuple #[.agg #[.int .i64 a, .slice aa A.length ap, .slice na N.length np], .bool r]) = .returned (.tuple #[.agg #[.int .i64 (dDeterminize x).1.1, r0, r1], .bool (dDeterminize x).2]) ∧ St w W [Ch.own rBoolS [r0] (dDeterminize x).1.2.1, Ch.own rIntSS [r1] (dDeterminize x).1.2.2] := fun W h => ⟨_, _, by rw [E.out], by rw [E.out]; exact h⟩
    have SE := hid ((((S2.out.set 2 rfl 0 (.int .i64 a)).set 0 rfl 1 (.slice aa A.length ap)).set 0 rfl 2 (.slice na N.length np)).alloc [.int .i64 a, .slice aa A.length ap, .slice na N.length np] 45)
    exact bodyPost_ret (v := .tuple #[.agg #[.int .i64 a, .slice aa A.length ap, .slice na N.length np], .bool r]) (res_cell_tmp (cs := [.int .i64 a, .slice aa A.length ap, .slice na N.length np]) Try.results14 rfl rfl (SE.out.heap 1 rfl).1 rfl Try.underlying45 hsz.out) rfl (fin _ (SE.out.sel 5 [2, 3] rfl (by decide)))
end Go.Proofs.Ytokiommgielfjaa
