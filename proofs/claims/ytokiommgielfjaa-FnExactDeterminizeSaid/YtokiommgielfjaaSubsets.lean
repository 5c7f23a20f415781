/- l11Subsets: the automaton whose states are found from the set 1. -/
import Derived.Test.YtokiommgielfjaaNumb
import Derived.Test.YtokiommgielfjaaApp
import Derived.Deep.RegionHeld3
import Derived.Deep.RegionLaw
import Derived.Deep.DeepCutAuto
set_option linter.unusedVariables false
set_option linter.unusedSimpArgs false
namespace Go.Proofs.Ytokiommgielfjaa
open Go.RowKit
/-- the next set, if there is one -/
def nxSet (x : DPositions) (s : Int) (k : Nat) : Option Int := if after x s k = 0 then none else some (after x s k)
theorem i64_after (x : DPositions) (s k : Int) : I64 (after x s k) := by
  unfold after
  generalize afU _ _ _ _ = m
  generalize x.1.length = n
  have : ∀ n, I64 (afO x.1 m k n) := by
    intro n
    induction n with
    | zero => unfold afO I64; omega
    | succ n ih =>
      unfold afO
      split
      · split
        · exact bits_i64 _ _ _
        · exact ih
      · exact ih
  exact this n
def dSubsets (x : DPositions) (most : Int) : DAutomaton × Bool := numb (nxSet x) (accSet x) most 14 0 [1] [] []

set_option maxHeartbeats 16000000 in
theorem sSubsets_any (v0 v1 : Value) (x : DPositions) (w : World) (h0 : rIntS.rd w.heap.size w [v0] x.1) (h1 : rIntS.rd w.heap.size w [v1] x.2.2.2.1) (hn : x.1.length ≤ 20) (hm : x.2.2.2.1.length = x.1.length) :
    Calls Try.prog 31 #[.agg #[v0, .int .i64 x.2.1, .int .i64 x.2.2.1, v1, .bool x.2.2.2.2], .int .i64 12] w fun e w' => ∃ r0 r1, e = .returned (.tuple #[.agg #[.int .i64 (dSubsets x 12).1.1, r0, r1], .bool (dSubsets x 12).2]) ∧ St w w' [Ch.own rBoolS [r0] (dSubsets x 12).1.2.1, Ch.own rIntSS [r1] (dSubsets x 12).1.2.2] := by
  obtain ⟨R, hR⟩ : ∃ R, dSubsets x 12 = R := ⟨_, rfl⟩
  rw [hR]
  have HR := hid hR; clear hR
  have H0 := hid h0; have H1 := hid h1; clear h0 h1
  have S0 := hid (show St w ((((w.alloc (.cells #[v0, .int .i64 x.2.1, .int .i64 x.2.2.1, v1, .bool x.2.2.2.2] 48)).alloc (.cells #[.int .i64 0, .slice none 0 0, .slice none 0 0] 45)).alloc (.cells #[.int .i64 0, .slice none 0 0, .slice none 0 0] 45)).alloc (.cells #[.int .i64 1] 3)) [Ch.own rIntS [.slice (some ⟨w.heap.size + 3, 0, none⟩) 1 1] [1], Ch.own rBoolS [.slice none 0 0] [], Ch.own rIntSS [.slice none 0 0] [], Ch.blk (w.heap.size + 2) [.int .i64 0, .slice none 0 0, .slice none 0 0] 45, Ch.blk w.heap.size [v0, .int .i64 x.2.1, .int .i64 x.2.2.1, v1, .bool x.2.2.2.2] 48, Ch.blk (w.heap.size + 1) [.int .i64 0, .slice none 0 0, .slice none 0 0] 45] from by
    have a := ((((St.init w).alloc [v0, .int .i64 x.2.1, .int .i64 x.2.2.1, v1, .bool x.2.2.2.2] 48).alloc [.int .i64 0, .slice none 0 0, .slice none 0 0] 45).alloc [.int .i64 0, .slice none 0 0, .slice none 0 0] 45).alloc [.int .i64 1] 3
    have b := a.int (show I64 1 by unfold I64; omega)
    have c := b.perm (List.Perm.swap _ _ _)
    have d := St.built1 (R := rInt) (x := (1 : Int)) rfl c
    have e := (St.nilSlice (R := rBool) (E := 4) (St.nilSlice (R := rIntS) (E := 38) d))
    have f := e.sel 6 [2, 0, 1, 3, 5, 4] rfl (by decide)
    simp at f; exact f)
  go_enter Try.func31, Try.ntmps31
  go_wp2
  go_loopw [7, 8] (fun lv i wr => ∃ s lg lc av nv, ∃ (L : List Int) (A : List Bool) (N : List (List Int)), lv = .slice (some ⟨lg, 0, none⟩) L.length lc ∧ i = .int .i64 (s : Nat) ∧ numb (nxSet x) (accSet x) 12 (14 - s) s L A N = R ∧ s ≤ L.length ∧ L.length ≤ 12 ∧ A.length = s ∧ N.length = s ∧ St w wr [Ch.own rIntS [(.slice (some ⟨lg, 0, none⟩) L.length lc)] L, Ch.own rBoolS [av] A, Ch.own rIntSS [nv] N, Ch.blk (w.heap.size + 2) [.int .i64 0, av, nv] 45, Ch.blk w.heap.size [v0, .int .i64 x.2.1, .int .i64 x.2.2.1, v1, .bool x.2.2.2.2] 48, Ch.blk (w.heap.size + 1) [.int .i64 0, .slice none 0 0, .slice none 0 0] 45]) (fun _ i _ => 14 - (intOf i).toNat)
  case atStart => exact ⟨0, _, _, _, _, [1], [], [], rfl, rfl, HR.out, by simp, by simp, rfl, rfl, S0.out⟩
  case round =>
    obtain ⟨s, lg, lc, av, nv, L, A, N, rfl, rfl, hR, hs1, hs2, hA, hN, st⟩ := hrel
    have HRn := hid hR; clear hR
    have HA := hid hA; have HN := hid hN; clear hA hN
    obtain ⟨aa, ap, rfl⟩ := st.hdr (R := rBool) 1 rfl
    obtain ⟨na, np, rfl⟩ := st.hdr (R := rIntS) 2 rfl
    have S1 := hid (show St w wr [Ch.own rIntS [(.slice (some ⟨lg, 0, none⟩) L.length lc)] L, Ch.own rBoolS [(.slice aa A.length ap)] A, Ch.own rIntSS [(.slice na N.length np)] N, Ch.blk (w.heap.size + 2) [.int .i64 0, (.slice aa A.length ap), (.slice na N.length np)] 45, Ch.blk w.heap.size [v0, .int .i64 x.2.1, .int .i64 x.2.2.1, v1, .bool x.2.2.2.2] 48, Ch.blk (w.heap.size + 1) [.int .i64 0, .slice none 0 0, .slice none 0 0] 45] from st); clear st
    by_cases hlt : s < L.length
    rotate_left
    · have c6 := S1.out.cell 3 rfl; have c4 := S1.out.cell 5 rfl; have f4 := S1.out.free 5 rfl
      have E := hid (show R = ((0, A, N), true) by rw [← HRn.out, show 14 - s = (13 - s) + 1 by omega]; exact numb_end (by omega))
      go_wp2
      have hsz := (show (Try.prog.info? 45).map (·.size) = some 3 by kernel_rfl)
      have fin : ∀ W, St w W [Ch.own rBoolS [(.slice aa A.length ap)] A, Ch.own rIntSS [(.slice na N.length np)] N] → ∃ r0 r1, Ending.returned (.tuple #[.agg #[.int .i64 0, (.slice aa A.length ap), (.slice na N.length np)], .bool true]) = .returned (.tuple #[.agg #[.int .i64 R.1.1, r0, r1], .bool R.2]) ∧ St w W [Ch.own rBoolS [r0] R.1.2.1, Ch.own rIntSS [r1] R.1.2.2] := fun W h => ⟨_, _, by rw [E.out], by rw [E.out]; exact h⟩
      have SE := hid (((S1.out.set 5 rfl 0 (.int .i64 0)).set 0 rfl 1 (.slice aa A.length ap)).set 0 rfl 2 (.slice na N.length np))
      exact bodyPost_ret (v := .tuple #[.agg #[.int .i64 0, (.slice aa A.length ap), (.slice na N.length np)], .bool true]) (res_cell_tmp (cs := [.int .i64 0, (.slice aa A.length ap), (.slice na N.length np)]) Try.results31 rfl rfl (SE.out.heap 0 rfl).1 rfl Try.underlying45 hsz) rfl (fin _ (SE.out.sel 6 [2, 3] rfl (by decide)))
    · obtain ⟨y, hy⟩ := get_of_lt hlt
      have HY := hid hy; clear hy
      have cy := S1.out.cell_int HY.out
      have S2 := hid (show St w (wr.alloc (.cells #[] 3)) [Ch.own rIntS [.slice (some ⟨wr.heap.size, 0, none⟩) 0 0] [], Ch.own rIntS [(.slice (some ⟨lg, 0, none⟩) L.length lc)] L, Ch.own rBoolS [(.slice aa A.length ap)] A, Ch.own rIntSS [(.slice na N.length np)] N, Ch.blk (w.heap.size + 2) [.int .i64 0, (.slice aa A.length ap), (.slice na N.length np)] 45, Ch.blk w.heap.size [v0, .int .i64 x.2.1, .int .i64 x.2.2.1, v1, .bool x.2.2.2.2] 48, Ch.blk (w.heap.size + 1) [.int .i64 0, .slice none 0 0, .slice none 0 0] 45] from by
        have b := St.built0 (R := rInt) (S1.out.alloc [] 3)
        exact b)
      go_wp2
      go_loopw [7, 9, 10] (fun lv rv i wr => ∃ k lg lc rg rc, lv = .slice (some ⟨lg, 0, none⟩) (rowAt (nxSet x) y L k).1.length lc ∧ rv = .slice (some ⟨rg, 0, none⟩) (rowAt (nxSet x) y L k).2.length rc ∧ i = .int .i64 (k : Nat) ∧ k ≤ 9 ∧ St w wr [Ch.own rIntS [(.slice (some ⟨rg, 0, none⟩) (rowAt (nxSet x) y L k).2.length rc)] (rowAt (nxSet x) y L k).2, Ch.own rIntS [(.slice (some ⟨lg, 0, none⟩) (rowAt (nxSet x) y L k).1.length lc)] (rowAt (nxSet x) y L k).1, Ch.own rBoolS [(.slice aa A.length ap)] A, Ch.own rIntSS [(.slice na N.length np)] N, Ch.blk (w.heap.size + 2) [.int .i64 0, (.slice aa A.length ap), (.slice na N.length np)] 45, Ch.blk w.heap.size [v0, .int .i64 x.2.1, .int .i64 x.2.2.1, v1, .bool x.2.2.2.2] 48, Ch.blk (w.heap.size + 1) [.int .i64 0, .slice none 0 0, .slice none 0 0] 45]) (fun _ _ i _ => 9 - (intOf i).toNat)
      case atStart => exact ⟨0, _, _, _, _, rfl, rfl, rfl, by omega, S2.out⟩
      case round =>
        obtain ⟨k, lg1, lc1, rg, rc, rfl, rfl, rfl, hk, st⟩ := hrel
        have HB0 := rowAt_len (nxSet x) y L k
        have HY30 := rowAt_get (nxSet x) y L HY.out k
        obtain ⟨M1, M2, hM⟩ : ∃ M1 M2, rowAt (nxSet x) y L k = (M1, M2) := ⟨_, _, rfl⟩
        rw [hM] at HB0 HY30 st
        simp only at HB0 HY30
        have HB := hid HB0
        have hsM : s < M1.length := by omega
        clear HB0
        have HY3 := hid HY30; clear HY30
        have S3 := hid (show St w _ [Ch.own rIntS [(.slice (some ⟨rg, 0, none⟩) M2.length rc)] M2, Ch.own rIntS [(.slice (some ⟨lg1, 0, none⟩) M1.length lc1)] M1, Ch.own rBoolS [(.slice aa A.length ap)] A, Ch.own rIntSS [(.slice na N.length np)] N, Ch.blk (w.heap.size + 2) [.int .i64 0, (.slice aa A.length ap), (.slice na N.length np)] 45, Ch.blk w.heap.size [v0, .int .i64 x.2.1, .int .i64 x.2.2.1, v1, .bool x.2.2.2.2] 48, Ch.blk (w.heap.size + 1) [.int .i64 0, .slice none 0 0, .slice none 0 0] 45] from st); clear st
        have HM := hid hM
        simp only [hM]
        clear hM
        by_cases hk9 : k < 9
        · obtain ⟨t, ht⟩ : ∃ t, after x y k = t := ⟨_, rfl⟩
          have HT := hid ht; clear ht
          have HK := hid (show ∀ W, St w W [Ch.own rIntS [(.slice (some ⟨rg, 0, none⟩) M2.length rc)] M2, Ch.own rIntS [(.slice (some ⟨lg1, 0, none⟩) M1.length lc1)] M1, Ch.own rBoolS [(.slice aa A.length ap)] A, Ch.own rIntSS [(.slice na N.length np)] N, Ch.blk (w.heap.size + 2) [.int .i64 0, (.slice aa A.length ap), (.slice na N.length np)] 45, Ch.blk w.heap.size [v0, .int .i64 x.2.1, .int .i64 x.2.2.1, v1, .bool x.2.2.2.2] 48, Ch.blk (w.heap.size + 1) [.int .i64 0, .slice none 0 0, .slice none 0 0] 45] → (fun w' => St w w' [Ch.own rIntS [(.slice (some ⟨rg, 0, none⟩) M2.length rc)] M2, Ch.own rIntS [(.slice (some ⟨lg1, 0, none⟩) M1.length lc1)] M1, Ch.own rBoolS [(.slice aa A.length ap)] A, Ch.own rIntSS [(.slice na N.length np)] N, Ch.blk (w.heap.size + 2) [.int .i64 0, (.slice aa A.length ap), (.slice na N.length np)] 45, Ch.blk w.heap.size [v0, .int .i64 x.2.1, .int .i64 x.2.2.1, v1, .bool x.2.2.2.2] 48, Ch.blk (w.heap.size + 1) [.int .i64 0, .slice none 0 0, .slice none 0 0] 45] ∧ (∀ j, w'.cell? ⟨w.heap.size, j, none⟩ = ([v0, .int .i64 x.2.1, .int .i64 x.2.2.1, v1, .bool x.2.2.2.2] : List Value)[j]?) ∧ w'.cell? ⟨lg1, s, none⟩ = some (.int .i64 y)) W from fun W h => ⟨h, h.cell 5 rfl, h.tail.cell_int HY3.out⟩)
          go_wp2_with fail
          go_region_held3 (fun w' => St w w' [Ch.own rIntS [(.slice (some ⟨rg, 0, none⟩) M2.length rc)] M2, Ch.own rIntS [(.slice (some ⟨lg1, 0, none⟩) M1.length lc1)] M1, Ch.own rBoolS [(.slice aa A.length ap)] A, Ch.own rIntSS [(.slice na N.length np)] N, Ch.blk (w.heap.size + 2) [.int .i64 0, (.slice aa A.length ap), (.slice na N.length np)] 45, Ch.blk w.heap.size [v0, .int .i64 x.2.1, .int .i64 x.2.2.1, v1, .bool x.2.2.2.2] 48, Ch.blk (w.heap.size + 1) [.int .i64 0, .slice none 0 0, .slice none 0 0] 45] ∧ (∀ j, w'.cell? ⟨w.heap.size, j, none⟩ = ([v0, .int .i64 x.2.1, .int .i64 x.2.2.1, v1, .bool x.2.2.2.2] : List Value)[j]?) ∧ w'.cell? ⟨lg1, s, none⟩ = some (.int .i64 y)) (first | exact HK.out _ S3.out.drew | exact HK.out _ (held_any (by assumption) (by assumption))) (first | (go_at_call 49; refine (sAfter_any v0 v1 x y k _ ?_ ?_ hn hm).mono ?_; exact arg_any (by assumption) H0.out; exact arg_any (by assumption) H1.out; rintro e w1 ⟨rfl, hr⟩))
          have SA := hid (show St w w1 [Ch.own rIntS [(.slice (some ⟨rg, 0, none⟩) M2.length rc)] M2, Ch.own rIntS [(.slice (some ⟨lg1, 0, none⟩) M1.length lc1)] M1, Ch.own rBoolS [(.slice aa A.length ap)] A, Ch.own rIntSS [(.slice na N.length np)] N, Ch.blk (w.heap.size + 2) [.int .i64 0, (.slice aa A.length ap), (.slice na N.length np)] 45, Ch.blk w.heap.size [v0, .int .i64 x.2.1, .int .i64 x.2.2.1, v1, .bool x.2.2.2.2] 48, Ch.blk (w.heap.size + 1) [.int .i64 0, .slice none 0 0, .slice none 0 0] 45] from And.left (by assumption))
          clear HK hr
          by_cases ht0 : t = 0
          · have E := hid (show rowAt (nxSet x) y L (k + 1) = (M1, M2 ++ [-1]) by
              rw [rowAt_dead (by unfold nxSet; rw [HT.out, if_pos ht0]), HM.out])
            have h3 : (t != 0) = false := by simp [ht0]
            rw [HT.out]
            clear ht0
            go_wp2_with (at_builtin; refine wpList_append_int rfl (.tmp 46) (.tmp 48) rfl _ M2 (-1) SA.out (by unfold I64; omega) (by have := HB.out; omega) rfl rfl ?_; rintro g cap' w2 hs2)
            have S4 := hid hs2; clear hs2
            go_wp2
            go_roundw
            case rel => exact ⟨k + 1, lg1, lc1, g, cap', by rw [E.out], by rw [E.out]; simp, by go_num, by omega, by rw [E.out]; simp only [List.length_append, List.length_singleton]; exact S4.out⟩
            case measure => simp [intOf]; omega
          · have h3 : (t != 0) = true := by simp [ht0]
            have Hx := hid (show nxSet x y k = some t by unfold nxSet; rw [HT.out, if_neg ht0])
            have it : I64 t := HT.out ▸ i64_after x y k
            have IT := hid it; clear it
            rw [HT.out]
            clear ht0
            rcases hp : pos M1 t with _ | n
            · have E := hid (show rowAt (nxSet x) y L (k + 1) = (M1 ++ [t], M2 ++ [(M1.length : Int)]) by
                rw [rowAt_new Hx.out (by rw [HM.out]; exact hp), HM.out])
              have F := hid (show fnd M1 t = -1 by unfold fnd; rw [hp])
              clear hp
              go_wp2_with fail
              refine (sFind_any _ M1 t _ (SA.out.rd 1 rfl)).mono ?_
              rintro e w2 ⟨rfl, hs⟩
              have S4 := hid (show St w w2 [Ch.own rIntS [(.slice (some ⟨rg, 0, none⟩) M2.length rc)] M2, Ch.own rIntS [(.slice (some ⟨lg1, 0, none⟩) M1.length lc1)] M1, Ch.own rBoolS [(.slice aa A.length ap)] A, Ch.own rIntSS [(.slice na N.length np)] N, Ch.blk (w.heap.size + 2) [.int .i64 0, (.slice aa A.length ap), (.slice na N.length np)] 45, Ch.blk w.heap.size [v0, .int .i64 x.2.1, .int .i64 x.2.2.1, v1, .bool x.2.2.2.2] 48, Ch.blk (w.heap.size + 1) [.int .i64 0, .slice none 0 0, .slice none 0 0] 45] from SA.out.call hs); clear hs
              rw [F.out]
              go_wp2_with (first | (at_builtin; refine wpList_append_int rfl (.tmp 42) (.tmp 44) rfl _ M1 t (S4.out.front 1 rfl) IT.out (by have := HB.out; omega) rfl rfl ?_; rintro g cap' w3 hs3) | (at_builtin; refine wpList_append_int rfl (.tmp 46) (.tmp 48) rfl _ M2 (M1.length : Int) (hs3.front 1 rfl) (by unfold I64; have := HB.out; omega) (by have := HB.out; omega) rfl rfl ?_; rintro g2 cap2 w4 hs4))
              have S5 := hid hs4; clear hs3 hs4
              go_wp2
              go_roundw
              case rel => exact ⟨k + 1, g, cap', g2, cap2, by rw [E.out]; simp, by rw [E.out]; simp, by go_num, by omega, by rw [E.out]; simp only [List.length_append, List.length_singleton]; exact S5.out⟩
              case measure => simp [intOf]; omega
            · have E := hid (show rowAt (nxSet x) y L (k + 1) = (M1, M2 ++ [(n : Int)]) by
                rw [rowAt_old Hx.out (by rw [HM.out]; exact hp), HM.out])
              have F := hid (show fnd M1 t = (n : Int) by unfold fnd; rw [hp])
              have hnl := (pos_lt hp).1
              have HNL := hid hnl
              clear hp
              go_wp2_with fail
              refine (sFind_any _ M1 t _ (SA.out.rd 1 rfl)).mono ?_
              rintro e w2 ⟨rfl, hs⟩
              have S4 := hid (show St w w2 [Ch.own rIntS [(.slice (some ⟨rg, 0, none⟩) M2.length rc)] M2, Ch.own rIntS [(.slice (some ⟨lg1, 0, none⟩) M1.length lc1)] M1, Ch.own rBoolS [(.slice aa A.length ap)] A, Ch.own rIntSS [(.slice na N.length np)] N, Ch.blk (w.heap.size + 2) [.int .i64 0, (.slice aa A.length ap), (.slice na N.length np)] 45, Ch.blk w.heap.size [v0, .int .i64 x.2.1, .int .i64 x.2.2.1, v1, .bool x.2.2.2.2] 48, Ch.blk (w.heap.size + 1) [.int .i64 0, .slice none 0 0, .slice none 0 0] 45] from SA.out.call hs); clear hs
              rw [F.out]
              go_wp2_with (at_builtin; refine wpList_append_int rfl (.tmp 46) (.tmp 48) rfl _ M2 (n : Int) S4.out (by unfold I64; have := HB.out; have := HNL.out; omega) (by have := HB.out; omega) rfl rfl ?_; rintro g cap' w3 hs3)
              have S5 := hid hs3; clear hs3
              go_wp2
              go_roundw
              case rel => exact ⟨k + 1, lg1, lc1, g, cap', by rw [E.out], by rw [E.out]; simp, by go_num, by omega, by rw [E.out]; simp only [List.length_append, List.length_singleton]; exact S5.out⟩
              case measure => simp [intOf]; omega
        · obtain rfl : k = 9 := by omega
          by_cases hmost : (12 : Int) < M1.length
          · have E := hid (show R = ((0, [], []), false) by
              rw [← HRn.out, show 14 - s = (13 - s) + 1 by omega]; exact numb_much HY.out (by rw [HM.out]; exact hmost))
            have c4 := S3.out.cell 6 rfl; have f4 := S3.out.free 6 rfl
            go_wp2
            have hsz := (show (Try.prog.info? 45).map (·.size) = some 3 by kernel_rfl)
            have fin : ∀ W, St w W [Ch.own rBoolS [.slice none 0 0] [], Ch.own rIntSS [.slice none 0 0] []] → ∃ r0 r1, Ending.returned (.tuple #[.agg #[.int .i64 0, .slice none 0 0, .slice none 0 0], .bool false]) = .returned (.tuple #[.agg #[.int .i64 R.1.1, r0, r1], .bool R.2]) ∧ St w W [Ch.own rBoolS [r0] R.1.2.1, Ch.own rIntSS [r1] R.1.2.2] := fun W h => ⟨_, _, by rw [E.out], by rw [E.out]; exact h⟩
            have SE := hid (((S3.out.set 6 rfl 0 (.int .i64 0)).set 0 rfl 1 (.slice none 0 0)).set 0 rfl 2 (.slice none 0 0))
            exact bodyPost_ret (v := .tuple #[.agg #[.int .i64 0, .slice none 0 0, .slice none 0 0], .bool false]) (res_cell_tmp (cs := [.int .i64 0, .slice none 0 0, .slice none 0 0]) Try.results31 rfl rfl (SE.out.heap 0 rfl).1 rfl Try.underlying45 hsz) rfl (fin _ (St.nilSlice (St.nilSlice SE.out.drop)))
          · have E := hid (show numb (nxSet x) (accSet x) 12 (14 - (s + 1)) (s + 1) M1 (A ++ [accSet x y]) (N ++ [M2]) = R by
              rw [← HRn.out, show 14 - s = (14 - (s + 1)) + 1 by omega, numb_go HY.out (by rw [HM.out]; exact hmost), HM.out])
            go_upto_region 20 with (fail)
            go_cut [9] (fun s9 wx => ∃ g cap, s9 = .slice (some ⟨rg, 0, none⟩) M2.length rc ∧ St w wx [Ch.blk (w.heap.size + 2) [.int .i64 0, .slice (some ⟨g, 0, none⟩) (A.length + 1) cap, (.slice na N.length np)] 45, Ch.own rBoolS [.slice (some ⟨g, 0, none⟩) (A.length + 1) cap] (A ++ [accSet x y]), Ch.own rIntS [(.slice (some ⟨rg, 0, none⟩) M2.length rc)] M2, Ch.own rIntS [(.slice (some ⟨lg1, 0, none⟩) M1.length lc1)] M1, Ch.own rIntSS [(.slice na N.length np)] N, Ch.blk w.heap.size [v0, .int .i64 x.2.1, .int .i64 x.2.2.1, v1, .bool x.2.2.2.2] 48, Ch.blk (w.heap.size + 1) [.int .i64 0, .slice none 0 0, .slice none 0 0] 45])
            case first =>
              have c2 := S3.out.cell 5 rfl; have c6 := S3.out.cell 4 rfl; have cy := S3.out.tail.cell_int HY3.out
              go_region_law (first | (refine step_append_bool (by rfl) (.tmp 56) (.tmp 63) (by rfl) _ A (accSet x y) ((S3.out.drew.call (by assumption)).front 2 rfl) (by have := HA.out; omega) (by rfl) (by rfl) ?_; rintro g cap' w3 hs3; have f6 := hs3.free 4 rfl; have c6q := hs3.cell 4 rfl) | (go_simp; go_at_call 51; refine (sAccepts_any v0 v1 x y _).mono ?_; rintro e w1 ⟨rfl, hr⟩; have c6' := (S3.out.drew.call hr).cell 4 rfl; have z6' := ((S3.out.drew.call hr).heap 4 rfl).2.2))
              all_goals
                go_wp2_with fail
                go_meet
                exact ⟨g, cap', rfl, hs3.set 4 rfl 1 _⟩
            case rest =>
              obtain ⟨g, cap, rfl, st9⟩ := hcut
              have S9 := hid st9; clear st9
              have c6 := S9.out.cell 0 rfl
              go_wp2_with (at_builtin; refine wpList_append_ints rfl (.tmp 67) (.tmp 69) rfl _ _ N M2 (S9.out.sel 7 [4, 2, 0, 1, 3, 5, 6] rfl (by decide)) (by have := HN.out; omega) rfl rfl ?_; rintro g2 cap2 w5 hs5; have f6 := hs5.free 1 rfl; have c6q := hs5.cell 1 rfl)
              have S10 := hid (hs5.set 1 rfl 2 (.slice (some ⟨g2, 0, none⟩) (N.length + 1) cap2)); clear hs5 f6 c6q c6
              go_wp2
              go_roundw
              case rel => exact ⟨s + 1, lg1, lc1, _, _, M1, A ++ [accSet x y], N ++ [M2], rfl, by go_num, E.out, by omega, by omega, by have := HA.out; simp; omega, by have := HN.out; simp; omega, S10.out.sel 6 [3, 2, 1, 0, 4, 5] rfl (by decide)⟩
              case measure => simp [intOf]; omega
end Go.Proofs.Ytokiommgielfjaa
