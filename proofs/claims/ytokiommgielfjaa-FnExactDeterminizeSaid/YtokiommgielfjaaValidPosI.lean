/- IsValidPositions of the program. -/
import Derived.Test.YtokiommgielfjaaValidPos
import Derived.FnLit
set_option linter.unusedVariables false
set_option linter.unusedSimpArgs false
namespace Go.Proofs.Ytokiommgielfjaa
open Go.RowKit

theorem iIsSet_any (s : Int) (n g : Nat) (w : World) (hn : n ≤ 20) (hc : w.cell? ⟨g, 0, none⟩ = some (.int .i64 n)) :
    Calls Try.prog 52 #[.int .i64 s, .pointer (some ⟨g, 0, none⟩)] w fun e w' => e = .returned (.bool (inR s 0 (top n))) ∧ w' = w := by
  obtain ⟨U, eU⟩ : ∃ U, IntKind.i64.wrap (2 ^ n) = U := ⟨_, rfl⟩
  obtain ⟨T, eT⟩ : ∃ T, IntKind.i64.wrap (U - 1) = T := ⟨_, rfl⟩
  have ET := hid (show top n = T by rw [← eT, ← eU]; rfl)
  go_enter Try.func52, Try.ntmps52
  go_wp2_with (go_at_call 23; refine (iIn_any _ _ _ _).mono ?_; rintro e w' ⟨rfl, rfl⟩)
  go_ret
  exact ⟨by rw [ET.out]; rfl, rfl⟩

set_option maxHeartbeats 8000000 in
theorem iValidPos_any (v0 v1 : Value) (x : DPositions) (w : World) (h0 : rIntS.rd w.heap.size w [v0] x.1) (h1 : rIntS.rd w.heap.size w [v1] x.2.2.2.1) :
    Calls Try.prog 33 #[.agg #[v0, .int .i64 x.2.1, .int .i64 x.2.2.1, v1, .bool x.2.2.2.2]] w fun e w' => e = .returned (.bool (okPos x)) ∧ St w w' [] := by
  obtain ⟨L, f, l, F, nb⟩ := x
  obtain ⟨ao, cap, b, off, hv, hl, hao, hc⟩ := flat_open h0
  obtain rfl : v0 = _ := by simpa using hv
  obtain ⟨ao', cap', b', off', hv', hl', hao', hc'⟩ := flat_open h1
  obtain rfl : v1 = _ := by simpa using hv'
  clear hv h0 hv' h1
  unfold lim at hl hl'
  simp only at hl hl' hao hao' hc hc' ⊢
  have HC := hid hc; have HC' := hid hc'; have HA := hid hao; have HA' := hid hao'
  clear hc hc' hao hao'
  have hmf : ∀ (fn : Fn) (first cap : Array Value) (w : World), (Instr.makeFunc fn first cap).run Try.prog w = .ok (.func fn first cap) w := fun _ _ _ _ => rfl
  have S0 := hid (show St w ((w.alloc (.cells #[.slice ao L.length cap, .int .i64 f, .int .i64 l, .slice ao' F.length cap', .bool nb] 48)).alloc (.cells #[.int .i64 L.length] 3)) [Ch.blk (w.heap.size + 1) [.int .i64 L.length] 3, Ch.blk w.heap.size [.slice ao L.length cap, .int .i64 f, .int .i64 l, .slice ao' F.length cap', .bool nb] 48] from (St.init w).alloc2 _ _ _ _)
  by_cases hn : (20 : Int) < L.length
  · have E := hid (okPos_false (x := (L, f, l, F, nb)) (fun h => by have := h.1; simp at this; omega))
    go_enter Try.func33, Try.ntmps33
    go_wp2
    go_ret
    exact ⟨by rw [E.out]; rfl, S0.out.drop⟩
  have hd : decide ((20 : Int) < (L.length : Nat)) = false := by simpa using hn
  by_cases hm : L.length = F.length
  rotate_left
  · have E := hid (okPos_false (x := (L, f, l, F, nb)) (fun h => hm h.2.1.symm))
    have hn2 : (((F.length : Nat) : Int) != ((L.length : Nat) : Int)) = true := by simp; omega
    go_enter Try.func33, Try.ntmps33
    go_wp2
    go_ret
    exact ⟨by rw [E.out]; rfl, S0.out.drop⟩
  rw [← hm] at S0 ⊢
  have HM := hid hm; clear hm
  have hn3 : ((L.length : Int) != (L.length : Int)) = false := by simp
  go_enter Try.func33, Try.ntmps33
  go_wp2
  go_loopw [23] (fun i wr => ∃ k : Nat, k ≤ L.length ∧ i = .int .i64 k ∧ (∀ n ∈ L.take k, inR n 0 8 = true) ∧ (∀ n ∈ F.take k, inR n 0 (top L.length) = true) ∧ St w wr [Ch.blk (w.heap.size + 1) [.int .i64 L.length] 3, Ch.blk w.heap.size [.slice ao L.length cap, .int .i64 f, .int .i64 l, .slice ao' L.length cap', .bool nb] 48]) (fun i _ => L.length - (intOf i).toNat)
  case atStart => exact ⟨0, Nat.zero_le _, rfl, by simp, by simp, S0.out⟩
  case round =>
    obtain ⟨k, hk, rfl, hL, hF, st⟩ := hrel
    have HL2 := hid hL; have HF2 := hid hF; clear hL hF
    have S1 := hid st
    have c0 := st.cell 0 rfl
    have c1 := st.cell 1 rfl
    by_cases hlt : k < L.length
    · obtain ⟨y, hy⟩ := get_of_lt hlt
      obtain ⟨z, hz⟩ := get_of_lt (show k < F.length by have := HM.out; omega)
      obtain ⟨q, iy⟩ := HC.out k y hy
      obtain ⟨q', iz⟩ := HC'.out k z hz
      obtain ⟨rfl, hb⟩ := HA.out (by omega)
      obtain ⟨rfl, hb'⟩ := HA'.out (by have := HM.out; omega)
      have q1 := (st.below.cell (p := ⟨b, off + k, none⟩) hb).trans q
      have q2 := (st.below.cell (p := ⟨b', off' + k, none⟩) hb').trans q'
      clear q q' st
      have HY := hid hy; have HZ := hid hz; clear hy hz
      by_cases h1 : inR y 0 8 = true
      · by_cases h2 : inR z 0 (top L.length) = true
        · have H1 := hid h1; have H2 := hid h2; clear h1 h2
          go_wp2_with (first | (go_at_call 53; refine (iLetter_any _ _).mono ?_; rintro e w' ⟨rfl, rfl⟩; rw [H1.out]) | (go_at_call 52; refine (iIsSet_any _ L.length _ _ (by omega) (S1.out.cell 0 rfl 0)).mono ?_; rintro e w' ⟨rfl, rfl⟩; rw [H2.out]))
          go_roundw
          case rel => exact ⟨k + 1, by omega, by go_num, take_all HY.out HL2.out H1.out, take_all HZ.out HF2.out H2.out, S1.out⟩
          case measure => simp [intOf]; omega
        · have E := hid (okPos_false (x := (L, f, l, F, nb)) (fun h => h2 (h.2.2.2.2.2 z (List.mem_of_getElem? HZ.out))))
          have H1 := hid h1; have H2 := hid (show inR z 0 (top L.length) = false by simpa using h2)
          clear h1 h2
          go_wp2_with (first | (go_at_call 53; refine (iLetter_any _ _).mono ?_; rintro e w' ⟨rfl, rfl⟩; rw [H1.out]) | (go_at_call 52; refine (iIsSet_any _ L.length _ _ (by omega) (S1.out.cell 0 rfl 0)).mono ?_; rintro e w' ⟨rfl, rfl⟩; rw [H2.out]))
          go_ret
          exact ⟨by rw [E.out]; rfl, S1.out.drop⟩
      · have E := hid (okPos_false (x := (L, f, l, F, nb)) (fun h => h1 (h.2.2.2.2.1 y (List.mem_of_getElem? HY.out))))
        have H1 := hid (show inR y 0 8 = false by simpa using h1)
        clear h1
        go_wp2_with (first | (go_at_call 53; refine (iLetter_any _ _).mono ?_; rintro e w' ⟨rfl, rfl⟩; rw [H1.out]))
        go_ret
        exact ⟨by rw [E.out]; rfl, S1.out.drop⟩
    · obtain rfl : k = L.length := by omega
      have H5 := hid (show (∀ n ∈ L, inR n 0 8 = true) ∧ ∀ n ∈ F, inR n 0 (top L.length) = true from ⟨by have := HL2.out; rwa [List.take_length] at this, by have := HF2.out; rw [List.take_of_length_le (by have := HM.out; omega)] at this; exact this⟩)
      by_cases h1 : inR f 0 (top L.length) = true
      rotate_left
      · have E := hid (okPos_false (x := (L, f, l, F, nb)) (fun h => h1 h.2.2.1))
        have H1 := hid (show inR f 0 (top L.length) = false by simpa using h1)
        clear h1
        go_wp2_with (first | (go_at_call 52; refine (iIsSet_any _ L.length _ _ (by omega) (S1.out.cell 0 rfl 0)).mono ?_; rintro e w' ⟨rfl, rfl⟩; rw [H1.out]))
        go_ret
        exact ⟨by rw [E.out]; rfl, S1.out.drop⟩
      have H1 := hid h1; clear h1
      obtain ⟨r, hr⟩ : ∃ r, inR l 0 (top L.length) = r := ⟨_, rfl⟩
      have E := hid (show okPos (L, f, l, F, nb) = r by
        cases r
        · exact okPos_false (fun h => by have := h.2.2.2.1; rw [hr] at this; cases this)
        · exact okPos_iff.2 ⟨by show L.length ≤ 20; omega, HM.out.symm, H1.out, hr, H5.out⟩)
      have HR := hid hr; clear hr
      go_wp2_with fail
      go_at_call 52
      refine (iIsSet_any _ L.length _ _ (by omega) (S1.out.cell 0 rfl 0)).mono ?_
      rintro e w' ⟨rfl, rfl⟩
      rw [H1.out]
      go_wp2_with fail
      go_at_call 52
      refine (iIsSet_any _ L.length _ _ (by omega) (S1.out.cell 0 rfl 0)).mono ?_
      rintro e w' ⟨rfl, rfl⟩
      rw [HR.out]
      go_wp2
      all_goals go_ret
      all_goals exact ⟨by rw [E.out]; rfl, S1.out.drop⟩
end Go.Proofs.Ytokiommgielfjaa
