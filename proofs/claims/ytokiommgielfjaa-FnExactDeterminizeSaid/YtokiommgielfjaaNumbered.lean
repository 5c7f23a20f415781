/- numbered[int]: the automaton whose states are found from a first one, by closures that are known by their contracts alone. -/
import Derived.Test.YtokiommgielfjaaNumb
import Derived.Test.YtokiommgielfjaaApp
import Derived.Deep.RegionHeld3
import Derived.Deep.RegionLaw
import Derived.Deep.DeepCutAuto
import Derived.Maps.OwnOps
import Derived.Shelf.Abstract
set_option linter.unusedVariables false
set_option linter.unusedSimpArgs false
namespace Go.Proofs.Ytokiommgielfjaa
open Go.RowKit Go.Maps

theorem numKeyed : Keyed Try.prog 3 := int_keyed Try.underlying3
theorem numZero (w : World) : (zeroValue 3).run Try.prog w = .ok (.int .i64 0) w := by kernel_rfl
theorem wf_i64 {t : Int} (h : I64 t) : (Lit.int .i64 t).wf = true := WalkArith.wf_i64 h

set_option maxHeartbeats 16000000 in
set_option maxRecDepth 100000 in
theorem numbered_any (kn ka : FuncId) (fn cn fa ca : Array Value) (nx : Int → Nat → Option Int) (ac : Int → Bool) (ok : Int → Prop) (first most : Int) (w : World)
    (en : ∀ args w, (callFunc kn args).run Try.prog w = .ok (.enter kn args) w) (ea : ∀ args w, (callFunc ka args).run Try.prog w = .ok (.enter ka args) w)
    (ok0 : ok first) (okI : ∀ s, ok s → I64 s) (okN : ∀ s k t, ok s → nx s k = some t → ok t) (hm0 : 0 ≤ most) (hm1 : most ≤ 1048576)
    (hnx : ∀ w' cs s (k : Nat), St w w' cs → ok s → k < 9 → Calls Try.prog kn (fn ++ (#[.int .i64 s, .int .i64 k] ++ cn)) w' fun e w'' => (∃ t, e = .returned (.tuple #[.int .i64 t, .bool (nx s k).isSome]) ∧ ∀ u, nx s k = some u → t = u) ∧ St w' w'' [])
    (hac : ∀ w' cs s, St w w' cs → ok s → Calls Try.prog ka (fa.push (.int .i64 s) ++ ca) w' fun e w'' => e = .returned (.bool (ac s)) ∧ St w' w'' []) (R : DAutomaton × Bool) (hR : numb nx ac most (most.toNat + 2) 0 [first] [] [] = R) :
    Calls Try.prog 54 #[.int .i64 first, .int .i64 most, .func (.func ka) fa ca, .func (.func kn) fn cn] w fun e w' => ∃ r0 r1, e = .returned (.tuple #[.agg #[.int .i64 R.1.1, r0, r1], .bool R.2]) ∧ St w w' [Ch.own rBoolS [r0] R.1.2.1, Ch.own rIntSS [r1] R.1.2.2] := by
  have HR := hid hR; clear hR
  have HX := hid hnx; have HAC := hid hac; clear hnx hac
  have OK0 := hid ok0; have OKI := hid okI; have OKN := hid okN; clear ok0 okI okN
  have Sp := hid (show St w (((w.alloc (.cells #[.int .i64 0, .slice none 0 0, .slice none 0 0] 45)).alloc (.cells #[.int .i64 first] 3)).alloc (.map #[] 0)) [Ch.map Try.prog 3 3 (w.heap.size + 2) 0 (.map []), Ch.own rIntS [.slice (some ⟨w.heap.size + 1, 0, none⟩) 1 1] [first], Ch.blk w.heap.size [.int .i64 0, .slice none 0 0, .slice none 0 0] 45] from by
    have a := ((St.init w).alloc [.int .i64 0, .slice none 0 0, .slice none 0 0] 45).alloc [.int .i64 first] 3
    have b := (a.int (OKI.out _ OK0.out)).perm (List.Perm.swap _ _ _)
    have c := St.map_made (P := Try.prog) (k := 3) (e := 3) (St.built1 (R := rInt) (x := first) rfl b)
    simp at c; exact c)
  obtain ⟨wm, hrun, hown, hgrow⟩ := Sp.out.map_owns.update numKeyed Try.underlying83 (by unfold maxLen; omega) (keyOf_int_mk (P := Try.prog) (k := 3) Try.underlying3 (wf_i64 (OKI.out _ OK0.out))) (plainElem_int (P := Try.prog) (e := 3) Try.underlying3 (a := 0) (by decide))
  have Sm := hid (Sp.out.map_step hown hgrow); clear hown hgrow
  have hmm := @run_makeMap Try.prog
  go_enter Try.func54, Try.ntmps54
  go_wp2
  clear hmm hrun
  have S0 := hid (show St w (wm.alloc (.cells #[.int .i64 0, .slice none 0 0, .slice none 0 0] 45)) [Ch.own rIntS [.slice (some ⟨w.heap.size + 1, 0, none⟩) 1 1] [first], Ch.own rBoolS [.slice none 0 0] [], Ch.own rIntSS [.slice none 0 0] [], Ch.blk wm.heap.size [.int .i64 0, .slice none 0 0, .slice none 0 0] 45, Ch.map Try.prog 3 3 (w.heap.size + 2) [first].length (numMap [first]), Ch.blk w.heap.size [.int .i64 0, .slice none 0 0, .slice none 0 0] 45] from by
    have a := Sm.out.alloc [.int .i64 0, .slice none 0 0, .slice none 0 0] 45
    exact (St.nilSlice (R := rBool) (E := 4) (St.nilSlice (R := rIntS) (E := 38) a)).sel 6 [4, 0, 1, 2, 3, 5] rfl (by decide))
  have law := numKeyed
  go_loopw [10, 13] (fun lv i wr => ∃ s lg lc av nv, ∃ (L : List Int) (A : List Bool) (N : List (List Int)), lv = .slice (some ⟨lg, 0, none⟩) L.length lc ∧ i = .int .i64 (s : Nat) ∧ numb nx ac most (most.toNat + 2 - s) s L A N = R ∧ s ≤ L.length ∧ (L.length ≤ most.toNat ∨ s = 0 ∧ L.length = 1) ∧ A.length = s ∧ N.length = s ∧ L.Nodup ∧ (∀ z ∈ L, ok z) ∧ St w wr [Ch.own rIntS [(.slice (some ⟨lg, 0, none⟩) L.length lc)] L, Ch.own rBoolS [av] A, Ch.own rIntSS [nv] N, Ch.blk wm.heap.size [.int .i64 0, av, nv] 45, Ch.map Try.prog 3 3 (w.heap.size + 2) L.length (numMap L), Ch.blk w.heap.size [.int .i64 0, .slice none 0 0, .slice none 0 0] 45]) (fun _ i _ => most.toNat + 2 - (intOf i).toNat)
  case atStart => exact ⟨0, _, _, _, _, [first], [], [], rfl, rfl, HR.out, by simp, by simp, rfl, rfl, by simp, by simpa using OK0.out, S0.out⟩
  case round =>
    obtain ⟨s, lg, lc, av, nv, L, A, N, rfl, rfl, hR, hs1, hs2, hA, hN, hnd, hok, st⟩ := hrel
    have HRn := hid hR; clear hR
    have HA := hid hA; have HN := hid hN; clear hA hN
    have HND := hid hnd; have HOK := hid hok; clear hnd hok
    have HS2 := hid hs2; clear hs2
    obtain ⟨aa, ap, rfl⟩ := st.hdr (R := rBool) 1 rfl
    obtain ⟨na, np, rfl⟩ := st.hdr (R := rIntS) 2 rfl
    have S1 := hid (show St w wr [Ch.own rIntS [(.slice (some ⟨lg, 0, none⟩) L.length lc)] L, Ch.own rBoolS [(.slice aa A.length ap)] A, Ch.own rIntSS [(.slice na N.length np)] N, Ch.blk wm.heap.size [.int .i64 0, (.slice aa A.length ap), (.slice na N.length np)] 45, Ch.map Try.prog 3 3 (w.heap.size + 2) L.length (numMap L), Ch.blk w.heap.size [.int .i64 0, .slice none 0 0, .slice none 0 0] 45] from st); clear st
    have hLl : L.length ≤ 1048577 := by have := HS2.out; omega
    by_cases hlt : s < L.length
    rotate_left
    · have c6 := S1.out.cell 3 rfl; have c4 := S1.out.cell 5 rfl; have f4 := S1.out.free 5 rfl
      have E := hid (show R = ((0, A, N), true) by rw [← HRn.out, show most.toNat + 2 - s = (most.toNat + 1 - s) + 1 by have := HS2.out; omega]; exact numb_end (by omega))
      go_wp2
      have hsz := (show (Try.prog.info? 45).map (·.size) = some 3 by kernel_rfl)
      have fin : ∀ W, St w W [Ch.own rBoolS [(.slice aa A.length ap)] A, Ch.own rIntSS [(.slice na N.length np)] N] → ∃ r0 r1, Ending.returned (.tuple #[.agg #[.int .i64 0, (.slice aa A.length ap), (.slice na N.length np)], .bool true]) = .returned (.tuple #[.agg #[.int .i64 R.1.1, r0, r1], .bool R.2]) ∧ St w W [Ch.own rBoolS [r0] R.1.2.1, Ch.own rIntSS [r1] R.1.2.2] := fun W h => ⟨_, _, by rw [E.out], by rw [E.out]; exact h⟩
      have SE := hid (((S1.out.set 5 rfl 0 (.int .i64 0)).set 0 rfl 1 (.slice aa A.length ap)).set 0 rfl 2 (.slice na N.length np))
      exact bodyPost_ret (v := .tuple #[.agg #[.int .i64 0, (.slice aa A.length ap), (.slice na N.length np)], .bool true]) (res_cell_tmp (cs := [.int .i64 0, (.slice aa A.length ap), (.slice na N.length np)]) Try.results54 rfl rfl (SE.out.heap 0 rfl).1 rfl Try.underlying45 hsz) rfl (fin _ (SE.out.sel 6 [2, 3] rfl (by decide)))
    · obtain ⟨y, hy⟩ := get_of_lt hlt
      have HY := hid hy; clear hy
      have HOy := hid (HOK.out y (List.mem_of_getElem? HY.out))
      have cy := S1.out.cell_int HY.out
      have S2 := hid (show St w (wr.alloc (.cells #[] 3)) [Ch.own rIntS [.slice (some ⟨wr.heap.size, 0, none⟩) 0 0] [], Ch.own rIntS [(.slice (some ⟨lg, 0, none⟩) L.length lc)] L, Ch.own rBoolS [(.slice aa A.length ap)] A, Ch.own rIntSS [(.slice na N.length np)] N, Ch.blk wm.heap.size [.int .i64 0, (.slice aa A.length ap), (.slice na N.length np)] 45, Ch.map Try.prog 3 3 (w.heap.size + 2) L.length (numMap L), Ch.blk w.heap.size [.int .i64 0, .slice none 0 0, .slice none 0 0] 45] from St.built0 (R := rInt) (S1.out.alloc [] 3))
      go_wp2
      go_loopw [10, 14, 15] (fun lv rv i wr => ∃ k lg lc rg rc, lv = .slice (some ⟨lg, 0, none⟩) (rowAt nx y L k).1.length lc ∧ rv = .slice (some ⟨rg, 0, none⟩) (rowAt nx y L k).2.length rc ∧ i = .int .i64 (k : Nat) ∧ k ≤ 9 ∧ (∀ z ∈ (rowAt nx y L k).1, ok z) ∧ St w wr [Ch.own rIntS [(.slice (some ⟨rg, 0, none⟩) (rowAt nx y L k).2.length rc)] (rowAt nx y L k).2, Ch.own rIntS [(.slice (some ⟨lg, 0, none⟩) (rowAt nx y L k).1.length lc)] (rowAt nx y L k).1, Ch.own rBoolS [(.slice aa A.length ap)] A, Ch.own rIntSS [(.slice na N.length np)] N, Ch.blk wm.heap.size [.int .i64 0, (.slice aa A.length ap), (.slice na N.length np)] 45, Ch.map Try.prog 3 3 (w.heap.size + 2) (rowAt nx y L k).1.length (numMap (rowAt nx y L k).1), Ch.blk w.heap.size [.int .i64 0, .slice none 0 0, .slice none 0 0] 45]) (fun _ _ i _ => 9 - (intOf i).toNat)
      case atStart => exact ⟨0, _, _, _, _, rfl, rfl, rfl, by omega, HOK.out, S2.out⟩
      case round =>
        obtain ⟨k, lg1, lc1, rg, rc, rfl, rfl, rfl, hk, hok, st⟩ := hrel
        have HB0 := rowAt_len nx y L k
        have HY30 := rowAt_get nx y L HY.out k
        have HND0 := rowAt_nodup nx y L HND.out k
        obtain ⟨M1, M2, hM⟩ : ∃ M1 M2, rowAt nx y L k = (M1, M2) := ⟨_, _, rfl⟩
        rw [hM] at HB0 HY30 HND0 st hok
        simp only at HB0 HY30 HND0 hok
        have HB := hid HB0
        have HND1 := hid HND0
        have HOK1 := hid hok
        have hsM : s < M1.length := by omega
        clear HB0 HND0 hok
        have HY3 := hid HY30; clear HY30
        have S3 := hid (show St w _ [Ch.own rIntS [(.slice (some ⟨rg, 0, none⟩) M2.length rc)] M2, Ch.own rIntS [(.slice (some ⟨lg1, 0, none⟩) M1.length lc1)] M1, Ch.own rBoolS [(.slice aa A.length ap)] A, Ch.own rIntSS [(.slice na N.length np)] N, Ch.blk wm.heap.size [.int .i64 0, (.slice aa A.length ap), (.slice na N.length np)] 45, Ch.map Try.prog 3 3 (w.heap.size + 2) M1.length (numMap M1), Ch.blk w.heap.size [.int .i64 0, .slice none 0 0, .slice none 0 0] 45] from st); clear st
        have HM := hid hM
        simp only [hM]
        clear hM
        by_cases hk9 : k < 9
        · have cy3 := S3.out.tail.cell_int HY3.out
          go_wp2_with fail
          go_at_fn kn
          refine (HX.out _ _ y k S3.out HOy.out hk9).mono ?_
          rintro e w1 ⟨⟨t, rfl, ht⟩, hs⟩
          have SA := hid (show St w w1 [Ch.own rIntS [(.slice (some ⟨rg, 0, none⟩) M2.length rc)] M2, Ch.own rIntS [(.slice (some ⟨lg1, 0, none⟩) M1.length lc1)] M1, Ch.own rBoolS [(.slice aa A.length ap)] A, Ch.own rIntSS [(.slice na N.length np)] N, Ch.blk wm.heap.size [.int .i64 0, (.slice aa A.length ap), (.slice na N.length np)] 45, Ch.map Try.prog 3 3 (w.heap.size + 2) M1.length (numMap M1), Ch.blk w.heap.size [.int .i64 0, .slice none 0 0, .slice none 0 0] 45] from S3.out.call hs); clear hs
          have HT := hid ht; clear ht
          rcases hx : nx y k with _ | u
          · have E := hid (show rowAt nx y L (k + 1) = (M1, M2 ++ [-1]) by rw [rowAt_dead hx, HM.out])
            clear hx
            go_wp2_with (at_builtin; refine wpList_append_int rfl (.tmp 49) (.tmp 50) rfl _ M2 (-1) SA.out (by unfold I64; omega) (by have := HB.out; omega) rfl rfl ?_; rintro g cap' w2 hs2)
            have S4 := hid hs2; clear hs2
            go_wp2
            go_roundw
            case rel => exact ⟨k + 1, lg1, lc1, g, cap', by rw [E.out], by rw [E.out]; simp, by go_num, by omega, by rw [E.out]; exact HOK1.out, by rw [E.out]; simp only [List.length_append, List.length_singleton]; exact S4.out⟩
            case measure => simp [intOf]; omega
          · obtain rfl : t = u := HT.out u hx
            have HU := hid (OKN.out y k t HOy.out hx)
            have IT := hid (OKI.out t HU.out)
            have hkey := hid (keyOf_int_mk (P := Try.prog) (k := 3) Try.underlying3 (wf_i64 IT.out))
            rcases hp : pos M1 t with _ | n
            · have E := hid (show rowAt nx y L (k + 1) = (M1 ++ [t], M2 ++ [(M1.length : Int)]) by
                rw [rowAt_new hx (by rw [HM.out]; exact hp), HM.out])
              have HH := hid (show Maps.has (numMap M1) (.int .i64 t) = false by rw [numMap_has, hp]; rfl)
              have hwl := hid (plainElem_int (H := Unit) (P := Try.prog) (e := 3) Try.underlying3 (wf_i64 (t := (M1.length : Int)) (by unfold I64; have := HB.out; omega)))
              clear hx hp
              go_wp2_with (first
                | (at_lookup; refine wpList_lookup_own_ok_int _ rfl _ _ 83 rfl 3 3 .i64 numKeyed Try.underlying83 Try.underlying3 (numZero _) (w.heap.size + 2) _ _ rfl (SA.out.front 5 rfl).map_owns _ _ rfl hkey.out ?_; intro c hat hwc; rw [HH.out])
                | (at_mapUpdate; refine wpList_mapUpdate_own _ rfl _ _ _ 83 rfl 3 3 numKeyed Try.underlying83 _ (w.heap.size + 2) M1.length (numMap M1) rfl (SA.out.front 5 rfl).map_owns (by unfold maxLen; have := HB.out; omega) _ _ _ rfl rfl hkey.out _ [] hwl.out ?_; intro w2 hown2 hgrow2; have S5 := hid ((SA.out.front 5 rfl).map_step (m := (M1 ++ [t]).length) (D' := numMap (M1 ++ [t])) (by rw [numMap_snoc]; simpa using hown2) hgrow2); clear hown2 hgrow2)
                | (at_builtin; refine wpList_append_int rfl (.tmp 65) (.tmp 67) rfl _ M1 t (S5.out.front 2 rfl) IT.out (by have := HB.out; omega) rfl rfl ?_; rintro g cap' w3 hs3)
                | (at_builtin; refine wpList_append_int rfl (.tmp 69) (.tmp 71) rfl _ M2 (M1.length : Int) (hs3.front 2 rfl) (by unfold I64; have := HB.out; omega) (by have := HB.out; omega) rfl rfl ?_; rintro g2 cap2 w4 hs4))
              have S6 := hid hs4; clear hs3 hs4
              go_wp2
              go_roundw
              case rel => exact ⟨k + 1, g, cap', g2, cap2, by rw [E.out]; simp, by rw [E.out]; simp, by go_num, by omega, by rw [E.out]; intro z hz; rcases List.mem_append.1 hz with hz | hz; exact HOK1.out z hz; simp at hz; subst hz; exact HU.out, by rw [E.out]; simp only [List.length_append, List.length_singleton]; simpa using S6.out.sel 7 [0, 1, 3, 4, 5, 2, 6] rfl (by decide)⟩
              case measure => simp [intOf]; omega
            · have E := hid (show rowAt nx y L (k + 1) = (M1, M2 ++ [(n : Int)]) by
                rw [rowAt_old hx (by rw [HM.out]; exact hp), HM.out])
              have HH := hid (show Maps.has (numMap M1) (.int .i64 t) = true by rw [numMap_has, hp]; rfl)
              have HAt := hid (show ∀ z, (numMap M1).atKey (.int .i64 t) z = .lit (.int .i64 (n : Nat)) from fun z => by rw [numMap_at M1 t z HND1.out, hp])
              have HNL := hid (pos_lt hp).1
              clear hx hp
              go_wp2_with (first
                | (at_lookup; refine wpList_lookup_own_ok_int _ rfl _ _ 83 rfl 3 3 .i64 numKeyed Try.underlying83 Try.underlying3 (numZero _) (w.heap.size + 2) _ _ rfl (SA.out.front 5 rfl).map_owns _ _ rfl hkey.out ?_; intro c hat hwc; rw [HH.out]; (obtain rfl : (n : Int) = c := by rw [HAt.out] at hat; simpa using hat); clear hat hwc)
                | (at_builtin; refine wpList_append_int rfl (.tmp 69) (.tmp 71) rfl _ M2 (n : Int) SA.out (by unfold I64; have := HB.out; have := HNL.out; omega) (by have := HB.out; omega) rfl rfl ?_; rintro g2 cap2 w4 hs4))
              have S6 := hid hs4; clear hs4
              go_wp2
              go_roundw
              case rel => exact ⟨k + 1, lg1, lc1, g2, cap2, by rw [E.out], by rw [E.out]; simp, by go_num, by omega, by rw [E.out]; exact HOK1.out, by rw [E.out]; simp only [List.length_append, List.length_singleton]; exact S6.out⟩
              case measure => simp [intOf]; omega
        · obtain rfl : k = 9 := by omega
          by_cases hmost : most < (M1.length : Int)
          · have E := hid (show R = ((0, [], []), false) by
              rw [← HRn.out, show most.toNat + 2 - s = (most.toNat + 1 - s) + 1 by have := HS2.out; omega]; exact numb_much HY.out (by rw [HM.out]; exact hmost))
            have c4 := S3.out.cell 6 rfl; have f4 := S3.out.free 6 rfl
            go_wp2
            have hsz := (show (Try.prog.info? 45).map (·.size) = some 3 by kernel_rfl)
            have fin : ∀ W, St w W [Ch.own rBoolS [.slice none 0 0] [], Ch.own rIntSS [.slice none 0 0] []] → ∃ r0 r1, Ending.returned (.tuple #[.agg #[.int .i64 0, .slice none 0 0, .slice none 0 0], .bool false]) = .returned (.tuple #[.agg #[.int .i64 R.1.1, r0, r1], .bool R.2]) ∧ St w W [Ch.own rBoolS [r0] R.1.2.1, Ch.own rIntSS [r1] R.1.2.2] := fun W h => ⟨_, _, by rw [E.out], by rw [E.out]; exact h⟩
            have SE := hid (((S3.out.set 6 rfl 0 (.int .i64 0)).set 0 rfl 1 (.slice none 0 0)).set 0 rfl 2 (.slice none 0 0))
            exact bodyPost_ret (v := .tuple #[.agg #[.int .i64 0, .slice none 0 0, .slice none 0 0], .bool false]) (res_cell_tmp (cs := [.int .i64 0, .slice none 0 0, .slice none 0 0]) Try.results54 rfl rfl (SE.out.heap 0 rfl).1 rfl Try.underlying45 hsz) rfl (fin _ (St.nilSlice (St.nilSlice SE.out.drop)))
          · have E := hid (show numb nx ac most (most.toNat + 2 - (s + 1)) (s + 1) M1 (A ++ [ac y]) (N ++ [M2]) = R by
              rw [← HRn.out, show most.toNat + 2 - s = (most.toNat + 2 - (s + 1)) + 1 by have := HS2.out; omega, numb_go HY.out (by rw [HM.out]; exact hmost), HM.out])
            have HSB := hid (show s < 1048578 by omega)
            have HMo := hid hmost; have HM0 := hid hm0; have HM1 := hid hm1; clear hmost hLl hm0 hm1 law
            go_upto_region 22 with (fail)
            go_cut [14] (fun s9 wx => ∃ g cap, s9 = .slice (some ⟨rg, 0, none⟩) M2.length rc ∧ St w wx [Ch.blk wm.heap.size [.int .i64 0, .slice (some ⟨g, 0, none⟩) (A.length + 1) cap, (.slice na N.length np)] 45, Ch.own rBoolS [.slice (some ⟨g, 0, none⟩) (A.length + 1) cap] (A ++ [ac y]), Ch.own rIntS [(.slice (some ⟨rg, 0, none⟩) M2.length rc)] M2, Ch.own rIntS [(.slice (some ⟨lg1, 0, none⟩) M1.length lc1)] M1, Ch.own rIntSS [(.slice na N.length np)] N, Ch.map Try.prog 3 3 (w.heap.size + 2) M1.length (numMap M1), Ch.blk w.heap.size [.int .i64 0, .slice none 0 0, .slice none 0 0] 45])
            case first =>
              have c6 := S3.out.cell 4 rfl; have cy := S3.out.tail.cell_int HY3.out
              go_region_law (first | (refine step_append_bool (by rfl) (.tmp 79) (.tmp 86) (by rfl) _ A (ac y) ((S3.out.drew.call (by assumption)).front 2 rfl) (by have := HA.out; have := HSB.out; omega) (by rfl) (by rfl) ?_; rintro g cap' w3 hs3; have f6 := hs3.free 4 rfl; have c6q := hs3.cell 4 rfl) | (go_simp; go_at_fn ka; refine (HAC.out _ _ y S3.out.drew HOy.out).mono ?_; rintro e w1 ⟨rfl, hr⟩; have c6' := (S3.out.drew.call hr).cell 4 rfl; have z6' := ((S3.out.drew.call hr).heap 4 rfl).2.2))
              all_goals
                go_wp2_with fail
                go_meet
                exact ⟨g, cap', rfl, hs3.set 4 rfl 1 _⟩
            case rest =>
              obtain ⟨g, cap, rfl, st9⟩ := hcut
              have S9 := hid st9; clear st9
              have hsb := HSB.out
              have c6 := S9.out.cell 0 rfl
              go_wp2_with (at_builtin; refine wpList_append_ints rfl (.tmp 90) (.tmp 92) rfl _ _ N M2 (S9.out.sel 7 [4, 2, 0, 1, 3, 5, 6] rfl (by decide)) (by have := HN.out; have := HSB.out; omega) rfl rfl ?_; rintro g2 cap2 w5 hs5; have f6 := hs5.free 1 rfl; have c6q := hs5.cell 1 rfl)
              have S10 := hid (hs5.set 1 rfl 2 (.slice (some ⟨g2, 0, none⟩) (N.length + 1) cap2)); clear hs5 f6 c6q c6
              go_wp2
              go_roundw
              case rel => exact ⟨s + 1, lg1, lc1, _, _, M1, A ++ [ac y], N ++ [M2], rfl, by go_num, E.out, by omega, .inl (by have := HMo.out; omega), by have := HA.out; simp; omega, by have := HN.out; simp; omega, HND1.out, HOK1.out, S10.out.sel 6 [3, 2, 1, 0, 4, 5] rfl (by decide)⟩
              case measure => simp [intOf]; have := HS2.out; omega
end Go.Proofs.Ytokiommgielfjaa
