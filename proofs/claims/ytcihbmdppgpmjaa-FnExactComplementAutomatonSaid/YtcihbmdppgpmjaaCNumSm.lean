/- What is numbered is small. -/
import Derived.Test.YtcihbmdppgpmjaaCNumb
set_option linter.unusedVariables false
set_option linter.unusedSimpArgs false
set_option linter.unnecessarySimpa false
set_option linter.unusedSectionVars false
namespace Go.Proofs.Ytcihbmdppgpmjaa.D
open Go.RowKit

theorem bound_ints (n : Nat) (l : List Int) (hd : l.Nodup) (h : ∀ x ∈ l, 0 ≤ x ∧ x < n) : l.length ≤ n := by
  have := hd.length_le_of_subset (l₂ := (List.range n).map Int.ofNat) (fun x hx => by
    obtain ⟨h0, h1⟩ := h x hx
    exact List.mem_map.2 ⟨x.toNat, List.mem_range.2 (by omega), by show ((x.toNat : Nat) : Int) = x; omega⟩)
  simpa using this
theorem iOk_in {n : Nat} {x : Int} (hn : n ≤ 1000000) (h0 : 0 ≤ x) (h1 : x < n) : iOk x = true := by
  have := iOk_nat (n := x.toNat) (by omega)
  rwa [show ((x.toNat : Nat) : Int) = x from by omega] at this
/-- the numbered automata are small -/
theorem num_sm {κ : Type} [DecidableEq κ] {nx : κ → List (Option κ)} {first : κ} {G : κ → Prop} {B N : Nat} {acc : κ → Bool} (H : NumOk nx first G B) (hB : B ≤ 1000000) (hN : bfE nx first N) : Data.sm ((0, (bfS nx first N).map acc, bfR nx first N) : AutT) := by
  have hl := H.bound _ (bfS_nodup (nx := nx) (first := first) N) (bfS_good H.g0 H.gn N)
  refine ⟨trivial, ⟨by rw [List.length_map]; omega, fun _ _ => trivial⟩, ?_, ?_⟩
  · rw [bfR_length hN.2]; have := hN.1; omega
  · have key : ∀ i, i ≤ N → ∀ r ∈ bfR nx first i, r.length = 9 := by
      intro i
      induction i with
      | zero => intro _ r hr; cases hr
      | succ i ih =>
        intro hi r hr
        have hlt := hN.2 i (by omega)
        rw [bfR_succ hlt] at hr
        rcases List.mem_append.1 hr with hr | hr
        · exact ih (by omega) r hr
        · obtain rfl := List.mem_singleton.1 hr
          rw [nbR_length, H.len _ (bfS_good H.g0 H.gn i _ (List.getElem_mem hlt))]
    intro r hr
    exact ⟨by rw [key N (Nat.le_refl _) r hr]; decide, fun _ _ => trivial⟩
theorem nothing_sm : Data.sm nothing := ⟨trivial, ⟨by decide, fun _ _ => trivial⟩, by decide, fun r hr => by
  obtain rfl := List.mem_singleton.1 hr
  exact ⟨by decide, fun _ _ => trivial⟩⟩
end Go.Proofs.Ytcihbmdppgpmjaa.D
