/- Printed by dec.py: models of functions and the walks that show them. -/
import Derived.Test.YtcihbmdppgpmjaaEw3_1
import Derived.Test.YtcihbmdppgpmjaaEw3_2
set_option linter.unusedVariables false
set_option linter.unusedSimpArgs false
set_option linter.unnecessarySimpa false
set_option maxRecDepth 100000
namespace Go.Proofs.Ytcihbmdppgpmjaa.D
open Go.RowKit
set_option maxHeartbeats 8000000 in
theorem c_w_toRegisteredS (p0a : List (Int × ((List (Int × Int × Int × Int))) × Int)) (r : List (Int × ((List (Int × Int × Int × Int))) × Int)) (hm : m_w_toRegisteredS p0a = some r) {I : Hp} {w0 : World} (va0 : Value) (ra0 : (rSlice 195 (rProd rInt (rProd (rSlice 222 (rProd rInt (rProd rInt (rProd rInt rInt)))) rInt))).rd I [va0] p0a) : Con Try.prog 135 #[va0] I w0 [] (fun v => True) (fun v => [Ch.own (rSlice 147 (rProd rInt (rProd (rSlice 197 (rProd rInt (rProd rInt (rProd rInt rInt)))) rInt))) [v] r]) := by
  refine con_of_wp (n := 23) [(0, va0)] Try.func135 rfl rfl (Nat.le_of_ble_eq_true rfl) (args_all ⟨rfl, trivial⟩) (fun F w a ha hs => ?_) (fun v => ⟨dp_own (dp_slice (dp_prod dp_int (dp_prod (dp_slice (dp_prod dp_int (dp_prod dp_int (dp_prod dp_int dp_int)))) dp_int))), trivial⟩)
  unfold m_w_toRegisteredS at hm
  refine wp_seq ?_
  refine wp_region_lit ?_
  refine seq_op0 ha hs (opT_assign (v := .slice none 0 0) rfl rfl) rfl rfl ?_
  rintro u aq1 wq1 hf haq1 hsq1
  obtain rfl := Eq.symm hf
  clear ha hs a w
  refine wpList_nil ?_
  replace haq1 := haq1.pick' (L' := [(0, va0)]) ⟨rfl, trivial⟩
  refine nrm ?_
  refine wp_seq ?_
  refine wp_region_lit ?_
  refine seq_op0 haq1 hsq1 (opT_move (v := va0) rfl rfl) rfl rfl ?_
  rintro u aq2 wq2 hf haq2 hsq2
  obtain rfl := Eq.symm hf
  clear haq1 hsq1 aq1 wq1
  refine seq_op0 haq2 hsq2 (opT_len_hd (v := va0) (n := p0a.length) (Hd.of_rd ra0) Try.underlying61 rfl rfl) rfl rfl ?_
  rintro u aq3 wq3 hf haq3 hsq3
  obtain rfl := Eq.symm hf
  clear haq2 hsq2 aq2 wq2
  obtain ⟨x1, hk1, hm⟩ := bind_some hm
  refine seq_op haq3 hsq3 rfl (opT_mk (E := 147) (R := rProd rInt (rProd (rSlice 197 (rProd rInt (rProd rInt (rProd rInt rInt)))) rInt)) (zv := .agg #[.int .i64 0, .slice none 0 0, .int .i64 0]) (z := ((0, [], 0) : Int × ((List (Int × Int × Int × Int))) × Int)) (zro_prod (c := [.int .i64 0]) (d := [.slice none 0 0, .int .i64 0]) zro_flat (zro_prod (c := [.slice none 0 0]) (d := [.int .i64 0]) zro_nil zro_flat)) Try.underlying73 tz147 rfl rfl (by decide) (by decide) rfl rfl hk1) (List.Perm.refl _) rfl ?_
  rintro v1 aq4 wq4 - haq4 (hsq4 : St I w0 wq4 [Ch.own (rSlice 147 (rProd rInt (rProd (rSlice 197 (rProd rInt (rProd rInt (rProd rInt rInt)))) rInt))) [v1] x1, F])
  clear haq3 hsq3 aq3 wq3
  refine seq_op0 haq4 hsq4 (opT_assign (v := v1) rfl rfl) rfl rfl ?_
  rintro u aq5 wq5 hf haq5 hsq5
  obtain rfl := Eq.symm hf
  clear haq4 hsq4 aq4 wq4
  refine wpList_nil ?_
  replace haq5 := haq5.pick' (L' := [(0, va0), (3, v1)]) ⟨rfl, rfl, trivial⟩
  refine nrm ?_
  refine wp_seq ?_
  refine wp_seq ?_
  refine wp_region_lit ?_
  refine seq_op0 haq5 hsq5 (opT_assign (v := .int .i64 0) rfl rfl) rfl rfl ?_
  rintro u aq6 wq6 hf haq6 hsq6
  obtain rfl := Eq.symm hf
  clear haq5 hsq5 aq5 wq5
  refine wpList_nil ?_
  replace haq6 := haq6.pick' (L' := [(0, va0), (3, v1), (4, .int .i64 0)]) ⟨rfl, rfl, rfl, trivial⟩
  refine nrm ?_
  obtain ⟨o1, hl1, hc1⟩ := bindL_some hm
  refine wp_cut (fun a w => ∃ s4 : (List (Int × ((List (Int × Int × Int × Int))) × Int)) × Int, o1 = .brk s4 ∧ ∃ v7 : Value, Agr 23 a [(3, v7)] ∧ St I w0 w [Ch.own (rSlice 147 (rProd rInt (rProd (rSlice 197 (rProd rInt (rProd rInt (rProd rInt rInt)))) rInt))) [v7] s4.1, F]) ?_ ?_
  · refine wp_block (wp_loopM (R := List (Int × ((List (Int × Int × Int × Int))) × Int)) (S := (List (Int × ((List (Int × Int × Int × Int))) × Int)) × Int) (fun s3 a w => ∃ v8 : Value, Agr 23 a [(0, va0), (3, v8), (4, .int .i64 s3.2)] ∧ St I w0 w [Ch.own (rSlice 147 (rProd rInt (rProd (rSlice 197 (rProd rInt (rProd rInt (rProd rInt rInt)))) rInt))) [v8] s3.1, F]) hl1 ?_ ?_)
    · exact ⟨v1, haq6.pick' ⟨rfl, rfl, rfl, trivial⟩, St.sel hsq6 2 [0, 1] rfl rfl⟩
    · rintro s3 o2 hm hf1 aq39 wq39 ⟨v8, haq39, hsq39⟩
      unfold m_w_toRegisteredS_l0 at hm
      refine wp_seq ?_
      refine wp_seq ?_
      refine wp_region_lit ?_
      refine seq_op0 haq39 hsq39 (opT_move (v := .int .i64 s3.2) rfl rfl) rfl rfl ?_
      rintro u aq40 wq40 hf haq40 hsq40
      obtain rfl := Eq.symm hf
      clear haq39 hsq39 aq39 wq39
      refine seq_op0 haq40 hsq40 (opT_move (v := va0) rfl rfl) rfl rfl ?_
      rintro u aq41 wq41 hf haq41 hsq41
      obtain rfl := Eq.symm hf
      clear haq40 hsq40 aq40 wq40
      refine seq_op0 haq41 hsq41 (opT_len_hd (v := va0) (n := p0a.length) (Hd.of_rd ra0) Try.underlying61 rfl rfl) rfl rfl ?_
      rintro u aq42 wq42 hf haq42 hsq42
      obtain rfl := Eq.symm hf
      clear haq41 hsq41 aq41 wq41
      refine seq_op0 haq42 hsq42 (opT_cmp (k := .i64) (m := s3.2) (n := (p0a.length : Int)) (c := decide (s3.2 < (p0a.length : Int))) rfl rfl rfl rfl rfl) rfl rfl ?_
      rintro u aq43 wq43 hf haq43 hsq43
      obtain rfl := Eq.symm hf
      clear haq42 hsq42 aq42 wq42
      refine wpList_nil ?_
      replace haq43 := haq43.pick' (L' := [(0, va0), (3, v8), (4, .int .i64 s3.2), (11, .bool (decide (s3.2 < (p0a.length : Int))))]) ⟨rfl, rfl, rfl, rfl, trivial⟩
      refine nrm ?_
      rcases two (decide (s3.2 < (p0a.length : Int))) with hb3 | hb3
      · replace hm := ifFe hb3 hm
        refine cnd_false (b := decide (s3.2 < (p0a.length : Int))) haq43 rfl rfl hb3 ?_
        refine wp_exit ?_
        refine thenX ?_
        refine thenX ?_
        refine ex_in ?_
        refine nrm ?_
        exact ⟨_, loopBrk hm hf1, ⟨v8, haq43.pick' ⟨rfl, trivial⟩, St.sel hsq43 2 [0, 1] rfl rfl⟩⟩
      · replace hm := ifTe hb3 hm
        refine cnd_true (b := decide (s3.2 < (p0a.length : Int))) haq43 rfl rfl hb3 ?_
        refine wp_skip ?_
        refine nrm ?_
        refine wp_seq ?_
        refine wp_block ?_
        refine wp_region_lit ?_
        refine seq_op0 haq43 hsq43 (opT_move (v := v8) rfl rfl) rfl rfl ?_
        rintro u aq44 wq44 hf haq44 hsq44
        obtain rfl := Eq.symm hf
        clear haq43 hsq43 aq43 wq43
        refine seq_op0 haq44 hsq44 (opT_move (v := .int .i64 s3.2) rfl rfl) rfl rfl ?_
        rintro u aq45 wq45 hf haq45 hsq45
        obtain rfl := Eq.symm hf
        clear haq44 hsq44 aq44 wq44
        refine seq_op0 haq45 hsq45 (opT_move (v := va0) rfl rfl) rfl rfl ?_
        rintro u aq46 wq46 hf haq46 hsq46
        obtain rfl := Eq.symm hf
        clear haq45 hsq45 aq45 wq45
        refine seq_op0 haq46 hsq46 (opT_move (v := .int .i64 s3.2) rfl rfl) rfl rfl ?_
        rintro u aq47 wq47 hf haq47 hsq47
        obtain rfl := Eq.symm hf
        clear haq46 hsq46 aq46 wq46
        obtain ⟨x6, e7, hm⟩ := bind_some hm
        refine seq_op0 haq47 hsq47 (opT_index_hd (xs := p0a) (i := s3.2) (n := 3) (Hd.of_rd ra0) Try.underlying61 ti195 rfl rfl rfl (getI_in e7)) rfl rfl ?_
        rintro u aq48 wq48 hf haq48 hsq48
        obtain rfl := Eq.symm hf
        clear haq47 hsq47 aq47 wq47
        refine seq_op0 haq48 hsq48 (opT_load_el (S := rProd rInt (rProd (rSlice 222 (rProd rInt (rProd rInt (rProd rInt rInt)))) rInt)) (xs := p0a) (a := x6) (i := s3.2) (k := 3) (off := 0) (f := fun (x : Int × ((List (Int × Int × Int × Int))) × Int) => x) ra0 e7 Fld.self ti195 rfl rfl rfl rfl rfl) rfl rfl ?_
        rintro u aq49 wq49 ⟨d, hd, hf⟩ haq49 hsq49
        obtain ⟨_, _, rfl, rfl, ⟨_, _, rfl, r50, rfl⟩⟩ := hd
        obtain ⟨v9, rfl⟩ := one_cell r50 rfl
        have r5 := r50; clear r50
        obtain rfl : u = .agg #[.int .i64 x6.1, v9, .int .i64 x6.2.2] := hf
        clear haq48 hsq48 aq48 wq48
        obtain ⟨r6, e8, hm⟩ := bind_some hm
        refine seq_op haq49 hsq49 rfl (opT_call (args := #[.agg #[.int .i64 x6.1, v9, .int .i64 x6.2.2]]) (first := #[]) (captured := #[]) en167 rfl rfl rfl (c_w_toRegistered (x6.1, x6.2.1, x6.2.2) _ e8 v9 r5)) (List.Perm.refl _) rfl ?_
        rintro u aq50 wq50 ⟨v10, rfl⟩ haq50 (hsq50 : St I w0 wq50 [Ch.own (rSlice 197 (rProd rInt (rProd rInt (rProd rInt rInt)))) [v10] r6.2.1, Ch.own (rSlice 147 (rProd rInt (rProd (rSlice 197 (rProd rInt (rProd rInt (rProd rInt rInt)))) rInt))) [v8] s3.1, F])
        clear haq49 hsq49 aq49 wq49
        obtain ⟨x7, e9, hm⟩ := bind_some hm
        refine seq_op0 haq50 hsq50 (opT_index_hd (xs := s3.1) (i := s3.2) (n := 3) (St.hd hsq50 1 rfl).1 Try.underlying73 ti147 rfl rfl rfl (getI_in e9)) rfl rfl ?_
        rintro u aq51 wq51 hf haq51 hsq51
        obtain rfl := Eq.symm hf
        clear haq50 hsq50 aq50 wq50
        refine seq_op haq51 hsq51 rfl (opT_store_own (E := 147) (R := rProd rInt (rProd (rSlice 197 (rProd rInt (rProd rInt (rProd rInt rInt)))) rInt)) (S := rProd rInt (rProd (rSlice 197 (rProd rInt (rProd rInt (rProd rInt rInt)))) rInt)) (xs := s3.1) (a := x7) (b := (r6.1, r6.2.1, r6.2.2)) (i := s3.2) (k := 3) (off := 0) (f := fun x y => y) (v := v8) (d := [.int .i64 r6.1, v10, .int .i64 r6.2.2]) (u := .agg #[.int .i64 r6.1, v10, .int .i64 r6.2.2]) (bun_prod (c := [.int .i64 r6.1]) (d := [v10, .int .i64 r6.2.2]) bun_flat (bun_prod (c := [v10]) (d := [.int .i64 r6.2.2]) bun_own bun_flat)) e9 UpdO.self ti147 rfl rfl rfl rfl (allC rfl (allC (Hd.one (St.hd hsq51 0 rfl).1) (allC rfl allN))) rfl rfl rfl (by decide)) (perm_sel [1, 0, 2] (m := 3) rfl rfl) rfl ?_
        rintro _ aq52 wq52 - haq52 (hsq52 : St I w0 wq52 [Ch.own (rSlice 147 (rProd rInt (rProd (rSlice 197 (rProd rInt (rProd rInt (rProd rInt rInt)))) rInt))) [v8] (s3.1.set s3.2.toNat (r6.1, r6.2.1, r6.2.2)), F])
        clear haq51 hsq51 aq51 wq51
        refine wpList_nil ?_
        replace haq52 := haq52.pick' (L' := [(0, va0), (3, v8), (4, .int .i64 s3.2)]) ⟨rfl, rfl, rfl, trivial⟩
        refine nrmB ?_
        refine nrm ?_
        refine wp_region_lit ?_
        refine seq_op0 haq52 hsq52 (opT_move (v := .int .i64 s3.2) rfl rfl) rfl rfl ?_
        rintro u aq53 wq53 hf haq53 hsq53
        obtain rfl := Eq.symm hf
        clear haq52 hsq52 aq52 wq52
        refine seq_op0 haq53 hsq53 (opT_add (m := s3.2) (n := 1) rfl rfl rfl) rfl rfl ?_
        rintro u aq54 wq54 hf haq54 hsq54
        obtain rfl := Eq.symm hf
        clear haq53 hsq53 aq53 wq53
        refine seq_op0 haq54 hsq54 (opT_assign (v := .int .i64 (IntKind.i64.wrap (s3.2 + 1))) rfl rfl) rfl rfl ?_
        rintro u aq55 wq55 hf haq55 hsq55
        obtain rfl := Eq.symm hf
        clear haq54 hsq54 aq54 wq54
        refine wpList_nil ?_
        replace haq55 := haq55.pick' (L' := [(0, va0), (3, v8), (4, .int .i64 (IntKind.i64.wrap (s3.2 + 1)))]) ⟨rfl, rfl, rfl, trivial⟩
        refine nrm ?_
        exact ⟨_, (Option.some.inj hm).symm, ⟨v8, haq55.pick' ⟨rfl, rfl, rfl, trivial⟩, St.sel hsq55 2 [0, 1] rfl rfl⟩⟩
  · rintro aq56 wq56 ⟨s4, ho1, v7, haq56, hsq56⟩
    replace hm := loopOut ho1 hc1
    clear ho1 hc1 hl1
    refine nrm ?_
    refine wp_seq ?_
    refine wp_region_lit ?_
    refine seq_op0 haq56 hsq56 (opT_move (v := v7) rfl rfl) rfl rfl ?_
    rintro u aq57 wq57 hf haq57 hsq57
    obtain rfl := Eq.symm hf
    clear haq56 hsq56 aq56 wq56
    refine seq_op0 haq57 hsq57 (opT_assign (v := v7) rfl rfl) rfl rfl ?_
    rintro u aq58 wq58 hf haq58 hsq58
    obtain rfl := Eq.symm hf
    clear haq57 hsq57 aq57 wq57
    refine wpList_nil ?_
    replace haq58 := haq58.pick' (L' := [(2, v7)]) ⟨rfl, trivial⟩
    refine nrm ?_
    refine wp_ret ?_
    obtain rfl := Option.some.inj hm
    exact ret_1 haq58 rfl (res_tmp haq58 rfl) ⟨_, rfl, trivial, _, Hp.le.rfl, St.sel (hsq58) 2 [0, 1] rfl rfl⟩
set_option maxHeartbeats 8000000 in
theorem c_w_eqHistory (p0a : Int × (List ((List Int) × (List (Int × Int × Int × Int))))) (p1b : Int × (List ((List Int) × (List (Int × Int × Int × Int))))) (r : Bool) (hm : m_w_eqHistory p0a p1b = some r) {I : Hp} {w0 : World} (va0 : Value) (va1 : Value) (ra0 : (rSlice 45 (rProd (rSlice 3 rInt) (rSlice 126 (rProd rInt (rProd rInt (rProd rInt rInt)))))).rd I [va0] p0a.2) (ra1 : (rSlice 45 (rProd (rSlice 3 rInt) (rSlice 126 (rProd rInt (rProd rInt (rProd rInt rInt)))))).rd I [va1] p1b.2) : Con Try.prog 89 #[.agg #[.int .i64 p0a.1, va0], .agg #[.int .i64 p1b.1, va1]] I w0 [] (fun v => v = .bool r) (fun v => []) := by
  refine con_of_wp (n := 16) [(0, .agg #[.int .i64 p0a.1, va0]), (1, .agg #[.int .i64 p1b.1, va1])] Try.func89 rfl rfl (Nat.le_of_ble_eq_true rfl) (args_all ⟨rfl, rfl, trivial⟩) (fun F w a ha hs => ?_) (fun v => trivial)
  unfold m_w_eqHistory at hm
  refine wp_seq ?_
  refine wp_region_lit ?_
  refine seq_op ha hs rfl (opT_box (u := .agg #[.int .i64 p0a.1, va0]) (l := [.int .i64 p0a.1, va0]) rfl rfl rfl) (List.Perm.refl _) rfl ?_
  rintro _ aq1 wq1 ⟨g1, rfl⟩ haq1 (hsq1 : St I w0 wq1 [Ch.blk g1 [.int .i64 p0a.1, va0] 71, F])
  clear ha hs a w
  refine seq_op haq1 hsq1 rfl (opT_box (u := .agg #[.int .i64 p1b.1, va1]) (l := [.int .i64 p1b.1, va1]) rfl rfl rfl) (List.Perm.refl _) rfl ?_
  rintro _ aq2 wq2 ⟨g2, rfl⟩ haq2 (hsq2 : St I w0 wq2 [Ch.blk g2 [.int .i64 p1b.1, va1] 71, Ch.blk g1 [.int .i64 p0a.1, va0] 71, F])
  clear haq1 hsq1 aq1 wq1
  refine seq_op0 haq2 hsq2 (opT_assign (v := .bool false) rfl rfl) rfl rfl ?_
  rintro u aq3 wq3 hf haq3 hsq3
  obtain rfl := Eq.symm hf
  clear haq2 hsq2 aq2 wq2
  refine wpList_nil ?_
  replace haq3 := haq3.pick' (L' := [(2, .pointer (some ⟨g1, 0, none⟩)), (3, .pointer (some ⟨g2, 0, none⟩))]) ⟨rfl, rfl, trivial⟩
  refine nrm ?_
  refine wp_seq ?_
  refine wp_seq ?_
  refine wp_region_lit ?_
  refine seq_op0 haq3 hsq3 (opT_field_addr (g := g1) (b := 0) tf71_0 rfl rfl) rfl rfl ?_
  rintro u aq4 wq4 hf haq4 hsq4
  obtain rfl := Eq.symm hf
  clear haq3 hsq3 aq3 wq3
  refine seq_op haq4 hsq4 rfl (opT_load_blk (g := g1) (off := 0) (E := 71) (l := [.int .i64 p0a.1, va0]) (d := [.int .i64 p0a.1]) (u := .int .i64 p0a.1) ti3 rfl rfl rfl rfl rfl rfl) (perm_front (i := 1) rfl) rfl ?_
  rintro u aq5 wq5 hf haq5 (hsq5 : St I w0 wq5 [Ch.blk g1 [.int .i64 p0a.1, va0] 71, Ch.blk g2 [.int .i64 p1b.1, va1] 71, F])
  obtain rfl := Eq.symm hf
  clear haq4 hsq4 aq4 wq4
  refine seq_op0 haq5 hsq5 (opT_field_addr (g := g2) (b := 0) tf71_0 rfl rfl) rfl rfl ?_
  rintro u aq6 wq6 hf haq6 hsq6
  obtain rfl := Eq.symm hf
  clear haq5 hsq5 aq5 wq5
  refine seq_op haq6 hsq6 rfl (opT_load_blk (g := g2) (off := 0) (E := 71) (l := [.int .i64 p1b.1, va1]) (d := [.int .i64 p1b.1]) (u := .int .i64 p1b.1) ti3 rfl rfl rfl rfl rfl rfl) (perm_front (i := 1) rfl) rfl ?_
  rintro u aq7 wq7 hf haq7 (hsq7 : St I w0 wq7 [Ch.blk g2 [.int .i64 p1b.1, va1] 71, Ch.blk g1 [.int .i64 p0a.1, va0] 71, F])
  obtain rfl := Eq.symm hf
  clear haq6 hsq6 aq6 wq6
  refine seq_op0 haq7 hsq7 (opT_cmp (k := .i64) (m := p0a.1) (n := p1b.1) (c := p0a.1 != p1b.1) rfl rfl rfl rfl rfl) rfl rfl ?_
  rintro u aq8 wq8 hf haq8 hsq8
  obtain rfl := Eq.symm hf
  clear haq7 hsq7 aq7 wq7
  refine wpList_nil ?_
  replace haq8 := haq8.pick' (L' := [(2, .pointer (some ⟨g1, 0, none⟩)), (3, .pointer (some ⟨g2, 0, none⟩)), (9, .bool (p0a.1 != p1b.1))]) ⟨rfl, rfl, rfl, trivial⟩
  refine nrm ?_
  rcases two (p0a.1 != p1b.1) with hb1 | hb1
  · replace hm := ifFe hb1 hm
    refine cnd_false (b := p0a.1 != p1b.1) haq8 rfl rfl hb1 ?_
    refine wp_skip ?_
    refine nrm ?_
    refine wp_seq ?_
    refine wp_seq ?_
    refine wp_region_lit ?_
    refine seq_op0 haq8 hsq8 (opT_field_addr (g := g1) (b := 0) tf71_1 rfl rfl) rfl rfl ?_
    rintro u aq9 wq9 hf haq9 hsq9
    obtain rfl := Eq.symm hf
    clear haq8 hsq8 aq8 wq8
    refine seq_op haq9 hsq9 rfl (opT_load_blk (g := g1) (off := 1) (E := 71) (l := [.int .i64 p0a.1, va0]) (d := [va0]) (u := va0) ti69 rfl rfl rfl rfl rfl rfl) (perm_front (i := 1) rfl) rfl ?_
    rintro u aq10 wq10 hf haq10 (hsq10 : St I w0 wq10 [Ch.blk g1 [.int .i64 p0a.1, va0] 71, Ch.blk g2 [.int .i64 p1b.1, va1] 71, F])
    obtain rfl := Eq.symm hf
    clear haq9 hsq9 aq9 wq9
    refine seq_op0 haq10 hsq10 (opT_field_addr (g := g2) (b := 0) tf71_1 rfl rfl) rfl rfl ?_
    rintro u aq11 wq11 hf haq11 hsq11
    obtain rfl := Eq.symm hf
    clear haq10 hsq10 aq10 wq10
    refine seq_op haq11 hsq11 rfl (opT_load_blk (g := g2) (off := 1) (E := 71) (l := [.int .i64 p1b.1, va1]) (d := [va1]) (u := va1) ti69 rfl rfl rfl rfl rfl rfl) (perm_front (i := 1) rfl) rfl ?_
    rintro u aq12 wq12 hf haq12 (hsq12 : St I w0 wq12 [Ch.blk g2 [.int .i64 p1b.1, va1] 71, Ch.blk g1 [.int .i64 p0a.1, va0] 71, F])
    obtain rfl := Eq.symm hf
    clear haq11 hsq11 aq11 wq11
    obtain ⟨r1, e1, hm⟩ := bind_some hm
    refine seq_op0 haq12 hsq12 (opT_call (args := #[va0, va1]) (first := #[]) (captured := #[]) en142 rfl rfl rfl (c_w_eqGraphS p0a.2 p1b.2 _ e1 va0 va1 ra0 ra1)) rfl rfl ?_
    rintro u aq13 wq13 hf haq13 hsq13
    obtain rfl := Eq.symm hf
    clear haq12 hsq12 aq12 wq12
    refine seq_op0 haq13 hsq13 (opT_not (b := r1) rfl rfl) rfl rfl ?_
    rintro u aq14 wq14 hf haq14 hsq14
    obtain rfl := Eq.symm hf
    clear haq13 hsq13 aq13 wq13
    refine wpList_nil ?_
    replace haq14 := haq14.pick' (L' := [(15, .bool (!r1))]) ⟨rfl, trivial⟩
    refine nrm ?_
    rcases two (r1) with hb2 | hb2
    · replace hm := ifFe hb2 hm
      refine cnd_true (b := !r1) haq14 rfl rfl (notT hb2) ?_
      refine wp_seq ?_
      refine wp_region_lit ?_
      refine seq_op0 haq14 hsq14 (opT_assign (v := .bool false) rfl rfl) rfl rfl ?_
      rintro u aq15 wq15 hf haq15 hsq15
      obtain rfl := Eq.symm hf
      clear haq14 hsq14 aq14 wq14
      refine wpList_nil ?_
      replace haq15 := haq15.pick' (L' := [(4, .bool false)]) ⟨rfl, trivial⟩
      refine nrm ?_
      refine wp_ret ?_
      refine thenR ?_
      obtain rfl := Option.some.inj hm
      exact ret_1 haq15 rfl (res_tmp haq15 rfl) ⟨_, rfl, rfl, _, Hp.le.rfl, St.sel (hsq15) 3 [2] rfl rfl⟩
    · replace hm := ifTe hb2 hm
      refine cnd_false (b := !r1) haq14 rfl rfl (notF hb2) ?_
      refine wp_skip ?_
      refine nrm ?_
      refine wp_seq ?_
      refine wp_region_lit ?_
      refine seq_op0 haq14 hsq14 (opT_assign (v := .bool true) rfl rfl) rfl rfl ?_
      rintro u aq16 wq16 hf haq16 hsq16
      obtain rfl := Eq.symm hf
      clear haq14 hsq14 aq14 wq14
      refine wpList_nil ?_
      replace haq16 := haq16.pick' (L' := [(4, .bool true)]) ⟨rfl, trivial⟩
      refine nrm ?_
      refine wp_ret ?_
      obtain rfl := Option.some.inj hm
      exact ret_1 haq16 rfl (res_tmp haq16 rfl) ⟨_, rfl, rfl, _, Hp.le.rfl, St.sel (hsq16) 3 [2] rfl rfl⟩
  · replace hm := ifTe hb1 hm
    refine cnd_true (b := p0a.1 != p1b.1) haq8 rfl rfl hb1 ?_
    refine wp_seq ?_
    refine wp_region_lit ?_
    refine seq_op0 haq8 hsq8 (opT_assign (v := .bool false) rfl rfl) rfl rfl ?_
    rintro u aq17 wq17 hf haq17 hsq17
    obtain rfl := Eq.symm hf
    clear haq8 hsq8 aq8 wq8
    refine wpList_nil ?_
    replace haq17 := haq17.pick' (L' := [(4, .bool false)]) ⟨rfl, trivial⟩
    refine nrm ?_
    refine wp_ret ?_
    refine thenR ?_
    obtain rfl := Option.some.inj hm
    exact ret_1 haq17 rfl (res_tmp haq17 rfl) ⟨_, rfl, rfl, _, Hp.le.rfl, St.sel (hsq17) 3 [2] rfl rfl⟩
end Go.Proofs.Ytcihbmdppgpmjaa.D
