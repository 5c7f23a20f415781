/- Automata numbered over pairs of states, by the program. -/
import Derived.Test.YtcihbmdppgpmjaaCNumSm
set_option linter.unusedVariables false
set_option linter.unusedSimpArgs false
set_option linter.unnecessarySimpa false
set_option linter.unusedSectionVars false
namespace Go.Proofs.Ytcihbmdppgpmjaa.D
open Go.RowKit

/-! ### The program: keys that are pairs of states -/
section
variable {nx : Int × Int → List (Option (Int × Int))} {first : Int × Int} {G : Int × Int → Prop} {B : Nat}
theorem i_numbS_in {p3 : Int × Int → Int → Option ((Int × Int) × Bool)} {l : List (Int × Int)} {M : List ((Int × Int) × Int)} {os : List (Option (Int × Int))} {acs : List Bool} {rws : List (List Int)} {i : Nat}
    (hi : i < l.length) (hos : os.length = 9) (hM : MapOf M l) (hok : ∀ y, some y ∈ os → iiOk y = true) (hB : ∀ k, (nbS l (os.take k)).length ≤ 1000000)
    (hp : ∀ (k : Nat) (hk : k < 9), ∃ j, p3 (nth l (i : Int)) (k : Int) = some (match nth os (k : Int) with | some y => (y, true) | none => (j, false))) :
    ∃ M', loopM (m_i_numbered_states_l1 p3 (l, M, (i : Int), acs, rws)) FUEL (l, M, [], 0) = some (.brk (nbS l os, M', nbR l os, 9)) ∧ MapOf M' (nbS l os) := by
  obtain ⟨s', e, M', rfl, hM'⟩ := loopM_for (f := m_i_numbered_states_l1 p3 (l, M, (i : Int), acs, rws)) (fun k s => ∃ M', s = (nbS l (os.take k), M', nbR l (os.take k), (k : Int)) ∧ MapOf M' (nbS l (os.take k))) 9 (by
    rintro k s hk ⟨M1, rfl, hM1⟩
    have hpre := nbS_prefix l (os.take k)
    have hlen := hpre.length_le
    have hBk := hB k
    obtain ⟨j, hj⟩ := hp k hk
    have hrl : (nbR l (os.take k)).length ≤ 9 := by rw [nbR_length, List.length_take]; omega
    unfold m_i_numbered_states_l1
    simp only [peta]
    rw [if_pos (by simp; omega), getI_nth (by omega) (by omega)]; simp only [Option.bind_some]
    rw [prefix_nth hpre (by omega) (by omega), hj, take_one (by omega), nbS_snoc, nbR_snoc]
    simp only [Option.bind_some, wrap_succ (show k < 9223372036854775807 by omega)]
    cases ho : nth os (k : Int) with
    | none =>
      simp only [Bool.false_eq_true, if_false]
      rw [appI_ok (by simp; omega)]
      exact ⟨_, rfl, M1, rfl, hM1⟩
    | some y =>
      have hy : iiOk y = true := hok y (ho ▸ nth_mem (by omega) (by omega))
      simp only [if_true]
      rw [show chk (iiOk y = true) = some () from by unfold chk; rw [if_pos hy]]; simp only [Option.bind_some]
      rw [show lkM M1 y = _ from hM1.2 y]
      by_cases c : y ∈ nbS l (os.take k)
      · simp only [c, if_true, Option.isSome_some, Option.getD_some, Option.bind_some]
        rw [appI_ok (by simp; omega)]
        exact ⟨_, rfl, M1, by rw [nbL_old c]; rfl, by rw [nbL_old c]; exact hM1⟩
      · have hput : putM M1 iiOk iOk y ((nbS l (os.take k)).length : Int) = some ((y, ((nbS l (os.take k)).length : Int)) :: M1) := by
          unfold putM
          rw [if_pos ⟨by have := hM1.1; omega, hy, iOk_nat hBk⟩]
        simp only [c, if_false, Option.isSome_none, Bool.false_eq_true, hput, Option.bind_some]
        rw [appI_ok (by simp; omega)]; simp only [Option.bind_some]
        rw [appI_ok (by simp; omega)]
        refine ⟨_, rfl, (y, ((nbS l (os.take k)).length : Int)) :: M1, ?_, ?_⟩
        · rw [nbL_new c]; simp only [nbI, idxOf_nbL c]
        · rw [nbL_new c]; exact hM1.put c) (by
    rintro s ⟨M1, rfl, hM1⟩
    unfold m_i_numbered_states_l1
    simp) (s := (l, M, [], 0)) ⟨M, rfl, hM⟩ (by unfold FUEL; omega)
  rw [List.take_of_length_le (by omega)] at e hM'
  exact ⟨M', e, hM'⟩
theorem i_numbS {most : Int} {p2 : Int × Int → Option Bool} {p3 : Int × Int → Int → Option ((Int × Int) × Bool)} {acc : Int × Int → Bool} (H : NumOk nx first G B) (hB : B ≤ 1000000) (hmost : (B : Int) ≤ most) (hok : ∀ x, G x → iiOk x = true)
    (h2 : ∀ x, G x → p2 x = some (acc x)) (h3 : ∀ x (k : Nat), G x → k < 9 → ∃ j, p3 x (k : Int) = some (match nth (nx x) (k : Int) with | some y => (y, true) | none => (j, false))) :
    ∃ N, bfE nx first N ∧ m_i_numbered_states first most p2 p3 = some ((0, (bfS nx first N).map acc, bfR nx first N), true) := by
  obtain ⟨N, hNB, hN⟩ := bfE_ex (nx := nx) (first := first) (H.le)
  refine ⟨N, hN, ?_⟩
  unfold m_i_numbered_states
  simp only [peta]
  rw [show putM ([] : List ((Int × Int) × Int)) iiOk iOk first 0 = some [(first, 0)] from by unfold putM; rw [if_pos ⟨by simp, hok _ H.g0, by decide⟩]]; simp only [Option.bind_some]
  obtain ⟨s', e, M', rfl, hM'⟩ := loopM_for (f := m_i_numbered_states_l0 most p2 p3) (fun i s => ∃ M, s = (bfS nx first i, M, (i : Int), ((bfS nx first i).take i).map acc, bfR nx first i) ∧ MapOf M (bfS nx first i)) N (by
    rintro i s hi ⟨M, rfl, hM⟩
    have hlt := hN.2 i hi
    have hG := H.at hlt
    have hle := H.le i
    have hle' := H.le (i + 1)
    obtain ⟨M', e, hM'⟩ := i_numbS_in (p3 := p3) (l := bfS nx first i) (M := M) (os := nx (nth (bfS nx first i) (i : Int))) (acs := ((bfS nx first i).take i).map acc) (rws := bfR nx first i) hlt (H.len _ hG) hM (fun y hy => hok y (H.gn _ hG y hy))
      (fun k => by
        have : (nbS (bfS nx first i) ((nx (nth (bfS nx first i) (i : Int))).take k)).length ≤ B := H.bound _ (nbS_nodup (bfS_nodup i)) fun x hx => by
          rcases mem_nbS.1 hx with hx | hx
          · exact bfS_good H.g0 H.gn i x hx
          · exact H.gn _ hG x (List.mem_of_mem_take hx)
        omega) (fun k hk => h3 _ k hG hk)
    unfold m_i_numbered_states_l0
    simp only [peta]
    rw [if_pos (by simp; omega), bindL_brk e, ← bfS_succ' hlt]
    rw [← bfS_succ' hlt] at hM'
    have hl2 := (bfS_step_prefix (nx := nx) (first := first) i).length_le
    simp only
    rw [if_neg (by simp; omega), getI_nth (by omega) (by omega)]; simp only [Option.bind_some]
    rw [prefix_nth (bfS_step_prefix i) (by omega) (by omega), h2 _ hG]; simp only [Option.bind_some]
    have hr : (bfR nx first i).length = i := bfR_length fun j hj => hN.2 j (by omega)
    rw [appI_ok (by simp; omega)]; simp only [Option.bind_some]
    rw [appI_ok (by simp; omega)]; simp only [Option.bind_some, wrap_succ (show i < 9223372036854775807 by omega)]
    exact ⟨_, rfl, M', by rw [acc_succ hlt, bfR_succ' hlt], hM'⟩) (by
    rintro s ⟨M, rfl, hM⟩
    unfold m_i_numbered_states_l0
    simp only [peta]
    rw [if_neg (by have := hN.1; simp; omega)]) (s := ([first], [(first, 0)], 0, [], [])) ⟨_, rfl, MapOf.one first⟩ (up63 (by omega))
  rw [bindL_brk e]
  simp only
  rw [List.take_of_length_le (by have := hN.1; omega)]
end

end Go.Proofs.Ytcihbmdppgpmjaa.D
