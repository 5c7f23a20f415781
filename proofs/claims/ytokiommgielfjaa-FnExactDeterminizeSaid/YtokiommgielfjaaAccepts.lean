/- Does a set of positions accept: l10Accepts and Positions.accepts. What a set is led to: determinize$1. -/
import Derived.Test.YtokiommgielfjaaAfter
set_option linter.unusedVariables false
set_option linter.unusedSimpArgs false
namespace Go.Proofs.Ytokiommgielfjaa
open Go.RowKit
def accSet (x : DPositions) (set : Int) : Bool := bits .and .i64 set 1 == 1 && x.2.2.2.2 || !(bits .and .i64 (set / 2) x.2.2.1 == 0)
set_option maxHeartbeats 1000000 in
theorem sAccepts_any (v0 v1 : Value) (x : DPositions) (set : Int) (w : World) :
    Calls Try.prog 51 #[.agg #[v0, .int .i64 x.2.1, .int .i64 x.2.2.1, v1, .bool x.2.2.2.2], .int .i64 set] w fun e w' => e = .returned (.bool (accSet x set)) ∧ St w w' [] := by
  obtain ⟨L, f, l, F, nb⟩ := x
  have S0 := hid (show St w (w.alloc (.cells #[v0, .int .i64 f, .int .i64 l, v1, .bool nb] 48)) [Ch.blk w.heap.size [v0, .int .i64 f, .int .i64 l, v1, .bool nb] 48] from (St.init w).alloc _ _)
  show Calls _ _ #[.agg #[v0, .int .i64 f, .int .i64 l, v1, .bool nb], .int .i64 set] w _
  obtain ⟨r, hr⟩ : ∃ r, accSet (L, f, l, F, nb) set = r := ⟨_, rfl⟩
  rw [hr]
  have HR := hid hr; clear hr
  cases h1 : (bits .and .i64 set 1 == 1) <;> cases nb <;> cases h2 : (bits .and .i64 (set / 2) l == 0)
  all_goals
    have hr := HR.out
    simp [accSet, h1, h2] at hr
    subst hr
    clear HR
    have h4 : (bits .and .i64 (set / 2) l != 0) = !(bits .and .i64 (set / 2) l == 0) := rfl
    rw [h2] at h4
    try rw [Bool.not_true] at h4
    try rw [Bool.not_false] at h4
    go_enter Try.func51, Try.ntmps51
    go_wp2
    go_ret
    exact ⟨rfl, S0.out.drop⟩
set_option maxHeartbeats 1000000 in
theorem iAccepts_any (v0 v1 : Value) (x : DPositions) (set : Int) (w : World) :
    Calls Try.prog 55 #[.agg #[v0, .int .i64 x.2.1, .int .i64 x.2.2.1, v1, .bool x.2.2.2.2], .int .i64 set] w fun e w' => e = .returned (.bool (accSet x set)) ∧ St w w' [] := by
  obtain ⟨L, f, l, F, nb⟩ := x
  have S0 := hid (show St w (w.alloc (.cells #[v0, .int .i64 f, .int .i64 l, v1, .bool nb] 48)) [Ch.blk w.heap.size [v0, .int .i64 f, .int .i64 l, v1, .bool nb] 48] from (St.init w).alloc _ _)
  show Calls _ _ #[.agg #[v0, .int .i64 f, .int .i64 l, v1, .bool nb], .int .i64 set] w _
  obtain ⟨r, hr⟩ : ∃ r, accSet (L, f, l, F, nb) set = r := ⟨_, rfl⟩
  rw [hr]
  have HR := hid hr; clear hr
  cases h1 : (bits .and .i64 set 1 == 1) <;> cases nb <;> cases h2 : (bits .and .i64 (set / 2) l == 0)
  all_goals
    have hr := HR.out
    simp [accSet, h1, h2] at hr
    subst hr
    clear HR
    have h4 : (bits .and .i64 (set / 2) l != 0) = !(bits .and .i64 (set / 2) l == 0) := rfl
    rw [h2] at h4
    try rw [Bool.not_true] at h4
    try rw [Bool.not_false] at h4
    go_enter Try.func55, Try.ntmps55
    go_wp2
    go_ret
    exact ⟨rfl, S0.out.drop⟩
/-- what determinize's closure answers: the next set, and whether there is one -/
theorem iNext_any (v0 v1 : Value) (x : DPositions) (set letter : Int) (g : Nat) (w : World) (hg : ∀ j, w.cell? ⟨g, j, none⟩ = ([v0, .int .i64 x.2.1, .int .i64 x.2.2.1, v1, .bool x.2.2.2.2] : List Value)[j]?) (h0 : rIntS.rd w.heap.size w [v0] x.1) (h1 : rIntS.rd w.heap.size w [v1] x.2.2.2.1) (hn : x.1.length ≤ 20) (hm : x.2.2.2.1.length = x.1.length) :
    Calls Try.prog 56 #[.int .i64 set, .int .i64 letter, .pointer (some ⟨g, 0, none⟩)] w fun e w' => e = .returned (.tuple #[.int .i64 (after x set letter), .bool (!(after x set letter == 0))]) ∧ St w w' [] := by
  obtain ⟨t, ht⟩ : ∃ t, after x set letter = t := ⟨_, rfl⟩
  rw [ht]
  have HT := hid ht; clear ht
  go_enter Try.func56, Try.ntmps56
  go_wp2_with fail
  refine (iAfter_any v0 v1 x set letter _ h0 h1 hn hm).mono ?_
  rintro e w1 ⟨rfl, hs⟩
  have S1 := hid hs; clear hs
  rw [HT.out]
  cases h : (t == 0)
  all_goals
    have h4 : (t != 0) = !(t == 0) := rfl
    rw [h] at h4
    try rw [Bool.not_true] at h4
    try rw [Bool.not_false] at h4
    go_wp2
    go_ret2
    exact ⟨by rw [h]; rfl, S1.out⟩
end Go.Proofs.Ytokiommgielfjaa
