/- What follows a set of positions by a letter: l10After and Positions.after. -/
import Derived.Test.YtokiommgielfjaaValidPosI
import Derived.Deep.DeepCutAuto
import Derived.Deep.CutBlock
set_option linter.unusedVariables false
set_option linter.unusedSimpArgs false
namespace Go.Proofs.Ytokiommgielfjaa
open Go.RowKit
/-- is the place j in the set s? -/
def bit (s : Int) (j : Nat) : Bool := bits .and .i64 (s / 2 ^ j) 1 == 1
/-- the union of what may follow the first k places of the set, over what is there already -/
def afU (F : List Int) (set m0 : Int) : Nat → Int
  | 0 => m0
  | k + 1 => match F[k]? with | some f => if bit set (k + 1) then bits .or .i64 (afU F set m0 k) f else afU F set m0 k | none => afU F set m0 k
def afM0 (x : DPositions) (set : Int) : Int := if bits .and .i64 set 1 == 1 then x.2.1 else 0
/-- those of the first k places that are in m and bear the letter -/
def afO (L : List Int) (m letter : Int) : Nat → Int
  | 0 => 0
  | k + 1 => match L[k]? with | some y => if bit m k && y == letter then bits .or .i64 (afO L m letter k) (wrap64 (2 ^ (k + 1))) else afO L m letter k | none => afO L m letter k
def after (x : DPositions) (set letter : Int) : Int := afO x.1 (afU x.2.2.2.1 set (afM0 x set) x.2.2.2.1.length) letter x.1.length
theorem afU_yes {F : List Int} {set m0 f : Int} {k : Nat} (h : F[k]? = some f) (hb : bit set (k + 1) = true) : afU F set m0 (k + 1) = bits .or .i64 (afU F set m0 k) f := by simp [afU, h, hb]
theorem afU_no {F : List Int} {set m0 f : Int} {k : Nat} (h : F[k]? = some f) (hb : bit set (k + 1) = false) : afU F set m0 (k + 1) = afU F set m0 k := by simp [afU, h, hb]
theorem afO_yes {L : List Int} {m letter y : Int} {k : Nat} (h : L[k]? = some y) (hb : bit m k = true) (hy : y = letter) : afO L m letter (k + 1) = bits .or .i64 (afO L m letter k) (wrap64 (2 ^ (k + 1))) := by simp [afO, h, hb, hy]
theorem afO_no {L : List Int} {m letter y : Int} {k : Nat} (h : L[k]? = some y) (hb : bit m k = false ∨ y ≠ letter) : afO L m letter (k + 1) = afO L m letter k := by
  rcases hb with hb | hb <;> simp [afO, h, hb]

set_option maxHeartbeats 8000000 in
theorem sAfter_any (v0 v1 : Value) (x : DPositions) (set letter : Int) (w : World) (h0 : rIntS.rd w.heap.size w [v0] x.1) (h1 : rIntS.rd w.heap.size w [v1] x.2.2.2.1) (hn : x.1.length ≤ 20) (hm : x.2.2.2.1.length = x.1.length) :
    Calls Try.prog 49 #[.agg #[v0, .int .i64 x.2.1, .int .i64 x.2.2.1, v1, .bool x.2.2.2.2], .int .i64 set, .int .i64 letter] w fun e w' => e = .returned (.int .i64 (after x set letter)) ∧ St w w' [] := by
  obtain ⟨L, f, l, F, nb⟩ := x
  obtain ⟨ao, cap, b, off, hv, hl, hao, hc⟩ := flat_open h0
  obtain rfl : v0 = _ := by simpa using hv
  obtain ⟨ao', cap', b', off', hv', hl', hao', hc'⟩ := flat_open h1
  obtain rfl : v1 = _ := by simpa using hv'
  clear hv h0 hv' h1
  unfold lim at hl hl'
  simp only at hl hl' hao hao' hc hc' hn hm ⊢
  have HC := hid hc; have HC' := hid hc'; have HA := hid hao; have HA' := hid hao'
  clear hc hc' hao hao'
  rw [hm]
  have HM := hid hm; clear hm
  have S0 := hid (show St w (w.alloc (.cells #[.slice ao L.length cap, .int .i64 f, .int .i64 l, .slice ao' L.length cap', .bool nb] 48)) [Ch.blk w.heap.size [.slice ao L.length cap, .int .i64 f, .int .i64 l, .slice ao' L.length cap', .bool nb] 48] from (St.init w).alloc _ _)
  have main : ∀ m0 : Int, afM0 (L, f, l, F, nb) set = m0 → ∀ m : Int, afU F set m0 L.length = m → after (L, f, l, F, nb) set letter = afO L m letter L.length := by
    rintro m0 rfl m rfl
    show afO L (afU F set (afM0 (L, f, l, F, nb) set) F.length) letter L.length = _
    rw [HM.out]
  have HMain := hid main; clear main
  obtain ⟨m0, hm0⟩ : ∃ m0, afM0 (L, f, l, F, nb) set = m0 := ⟨_, rfl⟩
  have HM0 := hid hm0
  go_enter Try.func49, Try.ntmps49
  go_upto_if 13 with (fail)
  go_cut [7] (fun s7 wx => s7 = .int .i64 m0 ∧ St w wx [Ch.blk w.heap.size [.slice ao L.length cap, .int .i64 f, .int .i64 l, .slice ao' L.length cap', .bool nb] 48])
  case first =>
    cases hb : (bits .and .i64 set 1 == 1)
    · have e0 := hid (show m0 = 0 by rw [← hm0]; simp [afM0, hb])
      go_wp2
      go_meet
      exact ⟨by rw [e0.out], S0.out⟩
    · have e0 := hid (show m0 = f by rw [← hm0]; simp [afM0, hb])
      go_wp2
      go_meet
      exact ⟨by rw [e0.out], S0.out⟩
  case rest =>
    obtain ⟨rfl, st0⟩ := hcut
    have S1 := hid st0; clear st0
    clear hm0
    go_wp2
    go_loopw [7, 8] (fun m i wr => ∃ k : Nat, k ≤ L.length ∧ i = .int .i64 k ∧ m = .int .i64 (afU F set m0 k) ∧ St w wr [Ch.blk w.heap.size [.slice ao L.length cap, .int .i64 f, .int .i64 l, .slice ao' L.length cap', .bool nb] 48]) (fun _ i _ => L.length - (intOf i).toNat)
    case atStart => exact ⟨0, Nat.zero_le _, rfl, rfl, S1.out⟩
    case round =>
      obtain ⟨k, hk, rfl, rfl, st⟩ := hrel
      have S2 := hid st
      have c0 := st.cell 0 rfl
      by_cases hlt : k < L.length
      · obtain ⟨z, hz⟩ := get_of_lt (show k < F.length by have := HM.out; omega)
        obtain ⟨q', iz⟩ := HC'.out k z hz
        obtain ⟨rfl, hb'⟩ := HA'.out (by have := HM.out; omega)
        have q2 := (st.below.cell (p := ⟨b', off' + k, none⟩) hb').trans q'
        clear q' st
        cases hb : (bits .and .i64 (set / 2 ^ (k + 1)) 1 == 1)
        · have e0 := hid (afU_no (m0 := m0) hz hb); clear hz
          go_wp2
          go_roundw
          case rel => exact ⟨k + 1, by omega, by go_num, by rw [e0.out], S2.out⟩
          case measure => simp [intOf]; omega
        · have e0 := hid (afU_yes (m0 := m0) hz hb); clear hz
          go_wp2
          go_roundw
          case rel => exact ⟨k + 1, by omega, by go_num, by rw [e0.out], S2.out⟩
          case measure => simp [intOf]; omega
      · obtain rfl : k = L.length := by omega
        obtain ⟨m, hm⟩ : ∃ m, afU F set m0 L.length = m := ⟨_, rfl⟩
        have E := hid (HMain.out m0 HM0.out m hm)
        rw [hm]; clear hm
        go_wp2
        go_loopw [9, 10] (fun o i wr => ∃ k : Nat, k ≤ L.length ∧ i = .int .i64 k ∧ o = .int .i64 (afO L m letter k) ∧ St w wr [Ch.blk w.heap.size [.slice ao L.length cap, .int .i64 f, .int .i64 l, .slice ao' L.length cap', .bool nb] 48]) (fun _ i _ => L.length - (intOf i).toNat)
        case atStart => exact ⟨0, Nat.zero_le _, rfl, rfl, S2.out⟩
        case round =>
          clear c0 st
          obtain ⟨k, hk, rfl, rfl, st⟩ := hrel
          have S3 := hid st
          have c0 := st.cell 0 rfl
          by_cases hlt : k < L.length
          · obtain ⟨y, hy⟩ := get_of_lt hlt
            obtain ⟨q', iz⟩ := HC.out k y hy
            obtain ⟨rfl, hb'⟩ := HA.out (by omega)
            have q2 := (st.below.cell (p := ⟨b, off + k, none⟩) hb').trans q'
            clear q' st
            cases hb : (bits .and .i64 (m / 2 ^ k) 1 == 1)
            · have e0 := hid (afO_no (m := m) (letter := letter) hy (.inl hb)); clear hy
              go_wp2
              go_roundw
              case rel => exact ⟨k + 1, by omega, by go_num, by rw [e0.out], S3.out⟩
              case measure => simp [intOf]; omega
            · by_cases hyl : y = letter
              · have e0 := hid (afO_yes (m := m) (letter := letter) hy hb hyl); clear hy
                have h3 : (y == letter) = true := by simpa using hyl
                clear hyl
                go_wp2
                go_roundw
                case rel => exact ⟨k + 1, by omega, by go_num, by rw [e0.out], S3.out⟩
                case measure => simp [intOf]; omega
              · have e0 := hid (afO_no (m := m) (letter := letter) hy (.inr hyl)); clear hy
                have h3 : (y == letter) = false := by simpa using hyl
                clear hyl
                go_wp2
                go_roundw
                case rel => exact ⟨k + 1, by omega, by go_num, by rw [e0.out], S3.out⟩
                case measure => simp [intOf]; omega
          · obtain rfl : k = L.length := by omega
            go_wp2
            go_ret
            exact ⟨by rw [E.out]; rfl, S3.out.drop⟩
set_option maxHeartbeats 8000000 in
theorem iAfter_any (v0 v1 : Value) (x : DPositions) (set letter : Int) (w : World) (h0 : rIntS.rd w.heap.size w [v0] x.1) (h1 : rIntS.rd w.heap.size w [v1] x.2.2.2.1) (hn : x.1.length ≤ 20) (hm : x.2.2.2.1.length = x.1.length) :
    Calls Try.prog 57 #[.agg #[v0, .int .i64 x.2.1, .int .i64 x.2.2.1, v1, .bool x.2.2.2.2], .int .i64 set, .int .i64 letter] w fun e w' => e = .returned (.int .i64 (after x set letter)) ∧ St w w' [] := by
  obtain ⟨L, f, l, F, nb⟩ := x
  obtain ⟨ao, cap, b, off, hv, hl, hao, hc⟩ := flat_open h0
  obtain rfl : v0 = _ := by simpa using hv
  obtain ⟨ao', cap', b', off', hv', hl', hao', hc'⟩ := flat_open h1
  obtain rfl : v1 = _ := by simpa using hv'
  clear hv h0 hv' h1
  unfold lim at hl hl'
  simp only at hl hl' hao hao' hc hc' hn hm ⊢
  have HC := hid hc; have HC' := hid hc'; have HA := hid hao; have HA' := hid hao'
  clear hc hc' hao hao'
  rw [hm]
  have HM := hid hm; clear hm
  have S0 := hid (show St w (w.alloc (.cells #[.slice ao L.length cap, .int .i64 f, .int .i64 l, .slice ao' L.length cap', .bool nb] 48)) [Ch.blk w.heap.size [.slice ao L.length cap, .int .i64 f, .int .i64 l, .slice ao' L.length cap', .bool nb] 48] from (St.init w).alloc _ _)
  have main : ∀ m0 : Int, afM0 (L, f, l, F, nb) set = m0 → ∀ m : Int, afU F set m0 L.length = m → after (L, f, l, F, nb) set letter = afO L m letter L.length := by
    rintro m0 rfl m rfl
    show afO L (afU F set (afM0 (L, f, l, F, nb) set) F.length) letter L.length = _
    rw [HM.out]
  have HMain := hid main; clear main
  obtain ⟨m0, hm0⟩ : ∃ m0, afM0 (L, f, l, F, nb) set = m0 := ⟨_, rfl⟩
  have HM0 := hid hm0
  go_enter Try.func57, Try.ntmps57
  go_upto_if 15 with (fail)
  go_cut [7] (fun s7 wx => s7 = .int .i64 m0 ∧ St w wx [Ch.blk w.heap.size [.slice ao L.length cap, .int .i64 f, .int .i64 l, .slice ao' L.length cap', .bool nb] 48])
  case first =>
    cases hb : (bits .and .i64 set 1 == 1)
    · have e0 := hid (show m0 = 0 by rw [← hm0]; simp [afM0, hb])
      go_wp2
      go_meet
      exact ⟨by rw [e0.out], S0.out⟩
    · have e0 := hid (show m0 = f by rw [← hm0]; simp [afM0, hb])
      go_wp2
      go_meet
      exact ⟨by rw [e0.out], S0.out⟩
  case rest =>
    obtain ⟨rfl, st0⟩ := hcut
    have S1 := hid st0; clear st0
    have cc := S1.out.cell 0 rfl
    clear hm0
    go_wp2
    go_loopw [7, 21] (fun m i wr => ∃ k : Nat, k ≤ L.length ∧ i = .int .i64 k ∧ m = .int .i64 (afU F set m0 k) ∧ St w wr [Ch.blk w.heap.size [.slice ao L.length cap, .int .i64 f, .int .i64 l, .slice ao' L.length cap', .bool nb] 48]) (fun _ i _ => L.length - (intOf i).toNat)
    case atStart => exact ⟨0, Nat.zero_le _, rfl, rfl, S1.out⟩
    case round =>
      obtain ⟨k, hk, rfl, rfl, st⟩ := hrel
      have S2 := hid st
      have c0 := st.cell 0 rfl
      by_cases hlt : k < L.length
      · obtain ⟨z, hz⟩ := get_of_lt (show k < F.length by have := HM.out; omega)
        obtain ⟨q', iz⟩ := HC'.out k z hz
        obtain ⟨rfl, hb'⟩ := HA'.out (by have := HM.out; omega)
        have q2 := (st.below.cell (p := ⟨b', off' + k, none⟩) hb').trans q'
        clear q' st
        cases hb : (bits .and .i64 (set / 2 ^ (k + 1)) 1 == 1)
        · have e0 := hid (afU_no (m0 := m0) hz hb); clear hz
          go_wp2
          go_roundw
          case rel => exact ⟨k + 1, by omega, by go_num, by rw [e0.out], S2.out⟩
          case measure => simp [intOf]; omega
        · have e0 := hid (afU_yes (m0 := m0) hz hb); clear hz
          go_wp2
          go_roundw
          case rel => exact ⟨k + 1, by omega, by go_num, by rw [e0.out], S2.out⟩
          case measure => simp [intOf]; omega
      · obtain rfl : k = L.length := by omega
        obtain ⟨m, hm⟩ : ∃ m, afU F set m0 L.length = m := ⟨_, rfl⟩
        have E := hid (HMain.out m0 HM0.out m hm)
        rw [hm]; clear hm
        go_wp2
        go_loopw [10, 39] (fun o i wr => ∃ k : Nat, k ≤ L.length ∧ i = .int .i64 k ∧ o = .int .i64 (afO L m letter k) ∧ St w wr [Ch.blk w.heap.size [.slice ao L.length cap, .int .i64 f, .int .i64 l, .slice ao' L.length cap', .bool nb] 48]) (fun _ i _ => L.length - (intOf i).toNat)
        case atStart => exact ⟨0, Nat.zero_le _, rfl, rfl, S2.out⟩
        case round =>
          clear c0 st
          obtain ⟨k, hk, rfl, rfl, st⟩ := hrel
          have S3 := hid st
          have c0 := st.cell 0 rfl
          by_cases hlt : k < L.length
          · obtain ⟨y, hy⟩ := get_of_lt hlt
            obtain ⟨q', iz⟩ := HC.out k y hy
            obtain ⟨rfl, hb'⟩ := HA.out (by omega)
            have q2 := (st.below.cell (p := ⟨b, off + k, none⟩) hb').trans q'
            clear q' st
            cases hb : (bits .and .i64 (m / 2 ^ k) 1 == 1)
            · have e0 := hid (afO_no (m := m) (letter := letter) hy (.inl hb)); clear hy
              cases hyl : (y == letter)
              all_goals
                go_wp2
                go_roundw
                case rel => exact ⟨k + 1, by omega, by go_num, by rw [e0.out], S3.out⟩
                case measure => simp [intOf]; omega
            · by_cases hyl : y = letter
              · have e0 := hid (afO_yes (m := m) (letter := letter) hy hb hyl); clear hy
                have h3 : (y == letter) = true := by simpa using hyl
                clear hyl
                go_wp2
                go_roundw
                case rel => exact ⟨k + 1, by omega, by go_num, by rw [e0.out], S3.out⟩
                case measure => simp [intOf]; omega
              · have e0 := hid (afO_no (m := m) (letter := letter) hy (.inr hyl)); clear hy
                have h3 : (y == letter) = false := by simpa using hyl
                clear hyl
                go_wp2
                go_roundw
                case rel => exact ⟨k + 1, by omega, by go_num, by rw [e0.out], S3.out⟩
                case measure => simp [intOf]; omega
          · obtain rfl : k = L.length := by omega
            go_wp2
            go_ret
            exact ⟨by rw [E.out]; rfl, S3.out.drop⟩
end Go.Proofs.Ytokiommgielfjaa
