/- IsValidPositions, of both packages. -/
import Derived.Test.YtokiommgielfjaaNum
import Derived.Test.YtokiommgielfjaaH
import Derived.BigQuiet
set_option linter.unusedVariables false
set_option linter.unusedSimpArgs false
namespace Go.Proofs.Ytokiommgielfjaa
open Go.RowKit

/-- the greatest set of n places -/
def top (n : Nat) : Int := IntKind.i64.wrap (IntKind.i64.wrap (2 ^ n) - 1)
def okPos (x : DPositions) : Bool :=
  decide (x.1.length ≤ 20) && decide (x.2.2.2.1.length = x.1.length) && inR x.2.1 0 (top x.1.length) && inR x.2.2.1 0 (top x.1.length) && x.1.all (fun n => inR n 0 8) && x.2.2.2.1.all (fun n => inR n 0 (top x.1.length))
theorem okPos_iff {x : DPositions} : okPos x = true ↔ x.1.length ≤ 20 ∧ x.2.2.2.1.length = x.1.length ∧ inR x.2.1 0 (top x.1.length) = true ∧ inR x.2.2.1 0 (top x.1.length) = true ∧ (∀ n ∈ x.1, inR n 0 8 = true) ∧ ∀ n ∈ x.2.2.2.1, inR n 0 (top x.1.length) = true := by
  simp [okPos, and_assoc]
theorem okPos_false {x : DPositions} (h : ¬ (x.1.length ≤ 20 ∧ x.2.2.2.1.length = x.1.length ∧ inR x.2.1 0 (top x.1.length) = true ∧ inR x.2.2.1 0 (top x.1.length) = true ∧ (∀ n ∈ x.1, inR n 0 8 = true) ∧ ∀ n ∈ x.2.2.2.1, inR n 0 (top x.1.length) = true)) : okPos x = false := by
  cases e : okPos x
  · rfl
  · exact absurd (okPos_iff.1 e) h

theorem take_all {α : Type} {p : α → Prop} {l : List α} {k : Nat} {x : α} (hx : l[k]? = some x) (h : ∀ n ∈ l.take k, p n) (hp : p x) : ∀ n ∈ l.take (k + 1), p n := by
  intro n hn
  rw [take_get hx] at hn
  rcases List.mem_append.1 hn with hn | hn
  · exact h n hn
  · simp at hn; subst hn; exact hp

set_option maxHeartbeats 8000000 in
theorem sValidPos_any (v0 v1 : Value) (x : DPositions) (w : World) (h0 : rIntS.rd w.heap.size w [v0] x.1) (h1 : rIntS.rd w.heap.size w [v1] x.2.2.2.1) :
    Calls Try.prog 30 #[.agg #[v0, .int .i64 x.2.1, .int .i64 x.2.2.1, v1, .bool x.2.2.2.2]] w fun e w' => e = .returned (.bool (okPos x)) ∧ St w w' [] := by
  obtain ⟨L, f, l, F, nb⟩ := x
  obtain ⟨ao, cap, b, off, hv, hl, hao, hc⟩ := flat_open h0
  obtain rfl : v0 = _ := by simpa using hv
  obtain ⟨ao', cap', b', off', hv', hl', hao', hc'⟩ := flat_open h1
  obtain rfl : v1 = _ := by simpa using hv'
  clear hv h0 hv' h1
  unfold lim at hl hl'
  simp only at hl hl' hao hao' hc hc' ⊢
  have HC := hid hc; have HC' := hid hc'; have HA := hid hao; have HA' := hid hao'
  clear hc hc' hao hao'
  have S0 := hid (show St w (w.alloc (.cells #[.slice ao L.length cap, .int .i64 f, .int .i64 l, .slice ao' F.length cap', .bool nb] 48)) [Ch.blk w.heap.size [.slice ao L.length cap, .int .i64 f, .int .i64 l, .slice ao' F.length cap', .bool nb] 48] from (St.init w).alloc _ _)
  by_cases hn : (20 : Int) < L.length
  · have E := hid (okPos_false (x := (L, f, l, F, nb)) (fun h => by have := h.1; simp at this; omega))
    go_enter Try.func30, Try.ntmps30
    go_wp2
    go_quiet (fail)
    all_goals
      go_wp2
      go_ret
      exact ⟨by rw [E.out]; rfl, S0.out.drewN.drop⟩
  have hd : decide ((20 : Int) < (L.length : Nat)) = false := by simpa using hn
  by_cases hm : L.length = F.length
  rotate_left
  · have E := hid (okPos_false (x := (L, f, l, F, nb)) (fun h => hm h.2.1.symm))
    have hn2 : (((F.length : Nat) : Int) != ((L.length : Nat) : Int)) = true := by simp; omega
    go_enter Try.func30, Try.ntmps30
    go_wp2
    go_quiet (fail)
    all_goals
      go_wp2
      go_ret
      exact ⟨by rw [E.out]; rfl, S0.out.drewN.drop⟩
  rw [← hm] at S0 ⊢
  have HM := hid hm; clear hm
  obtain ⟨U, eU⟩ : ∃ U, IntKind.i64.wrap (2 ^ L.length) = U := ⟨_, rfl⟩
  obtain ⟨T, eT⟩ : ∃ T, IntKind.i64.wrap (U - 1) = T := ⟨_, rfl⟩
  have ET := hid (show top L.length = T by rw [← eT, ← eU]; rfl)
  by_cases hf : inR f 0 T = true
  rotate_left
  · have E := hid (okPos_false (x := (L, f, l, F, nb)) (fun h => hf (ET.out ▸ h.2.2.1)))
    have hf2 : inR f 0 T = false := by simpa using hf
    clear hf
    go_enter Try.func30, Try.ntmps30
    go_wp2
    go_quiet (first | (go_at_call 22; exact Calls.quiet_of_same (sIn_any _ _ _ _)))
    all_goals
      go_wp2
      go_ret
      exact ⟨by rw [E.out]; rfl, S0.out.drewN.drop⟩
  by_cases hl : inR l 0 T = true
  rotate_left
  · have E := hid (okPos_false (x := (L, f, l, F, nb)) (fun h => hl (ET.out ▸ h.2.2.2.1)))
    have hf2 : inR l 0 T = false := by simpa using hl
    clear hl
    go_enter Try.func30, Try.ntmps30
    go_wp2
    go_quiet (first | (go_at_call 22; exact Calls.quiet_of_same (sIn_any _ _ _ _)))
    all_goals
      go_wp2
      go_ret
      exact ⟨by rw [E.out]; rfl, S0.out.drewN.drop⟩
  have HF := hid hf; have HL := hid hl
  go_enter Try.func30, Try.ntmps30
  go_wp2
  go_quiet (first | (go_at_call 22; exact Calls.quiet_of_same (sIn_any _ _ _ _)))
  go_wp2
  clear hf hl
  go_loopw [4] (fun i wr => ∃ k : Nat, k ≤ L.length ∧ i = .int .i64 k ∧ (∀ n ∈ L.take k, inR n 0 8 = true) ∧ (∀ n ∈ F.take k, inR n 0 T = true) ∧ St w wr [Ch.blk w.heap.size [.slice ao L.length cap, .int .i64 f, .int .i64 l, .slice ao' L.length cap', .bool nb] 48]) (fun i _ => L.length - (intOf i).toNat)
  case atStart => exact ⟨0, Nat.zero_le _, rfl, by simp, by simp, S0.out.drewN⟩
  case round =>
    obtain ⟨k, hk, rfl, hL, hF, st⟩ := hrel
    have HL2 := hid hL; have HF2 := hid hF; clear hL hF
    have S1 := hid st
    have c0 := st.cell 0 rfl
    by_cases hlt : k < L.length
    · obtain ⟨y, hy⟩ := get_of_lt hlt
      obtain ⟨z, hz⟩ := get_of_lt (show k < F.length by have := HM.out; omega)
      obtain ⟨q, iy⟩ := HC.out k y hy
      obtain ⟨q', iz⟩ := HC'.out k z hz
      obtain ⟨rfl, hb⟩ := HA.out (by omega)
      obtain ⟨rfl, hb'⟩ := HA'.out (by have := HM.out; omega)
      have q1 := (st.below.cell (p := ⟨b, off + k, none⟩) hb).trans q
      have q2 := (st.below.cell (p := ⟨b', off' + k, none⟩) hb').trans q'
      clear q q' st
      have HY := hid hy; have HZ := hid hz; clear hy hz
      by_cases h1 : inR y 0 8 = true
      · by_cases h2 : inR z 0 T = true
        · go_wp2
          go_quiet (first | (go_at_call 22; exact Calls.quiet_of_same (sIn_any _ _ _ _)) | (go_at_call 48; exact Calls.quiet_of_same (sLetter_any _ _)))
          go_wp2
          go_roundw
          case rel => exact ⟨k + 1, by omega, by go_num, take_all HY.out HL2.out h1, take_all HZ.out HF2.out h2, S1.out.drewN⟩
          case measure => simp [intOf]; omega
        · have E := hid (okPos_false (x := (L, f, l, F, nb)) (fun h => h2 (ET.out ▸ h.2.2.2.2.2 z (List.mem_of_getElem? HZ.out))))
          have h3 : inR z 0 T = false := by simpa using h2
          clear h2
          go_wp2
          go_quiet (first | (go_at_call 22; exact Calls.quiet_of_same (sIn_any _ _ _ _)) | (go_at_call 48; exact Calls.quiet_of_same (sLetter_any _ _)))
          go_wp2
          go_ret
          exact ⟨by rw [E.out]; rfl, S1.out.drewN.drop⟩
      · have E := hid (okPos_false (x := (L, f, l, F, nb)) (fun h => h1 (h.2.2.2.2.1 y (List.mem_of_getElem? HY.out))))
        have h3 : inR y 0 8 = false := by simpa using h1
        clear h1
        go_wp2
        go_quiet (first | (go_at_call 22; exact Calls.quiet_of_same (sIn_any _ _ _ _)) | (go_at_call 48; exact Calls.quiet_of_same (sLetter_any _ _)))
        go_wp2
        go_ret
        exact ⟨by rw [E.out]; rfl, S1.out.drewN.drop⟩
    · obtain rfl : k = L.length := by omega
      have E := hid (okPos_iff (x := (L, f, l, F, nb)) |>.2 ⟨by show L.length ≤ 20; omega, HM.out.symm, by rw [ET.out]; exact HF.out, by rw [ET.out]; exact HL.out, by have := HL2.out; rwa [List.take_length] at this, by rw [ET.out]; have := HF2.out; rwa [HM.out, List.take_length] at this⟩)
      go_wp2
      go_ret
      exact ⟨by rw [E.out]; rfl, S1.out.drop⟩
end Go.Proofs.Ytokiommgielfjaa
