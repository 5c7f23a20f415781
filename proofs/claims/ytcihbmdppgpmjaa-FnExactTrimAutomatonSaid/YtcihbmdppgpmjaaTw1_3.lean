/- Printed by dec.py: models of functions and the walks that show them. -/
import Derived.Test.YtcihbmdppgpmjaaTw0_2
import Derived.Test.YtcihbmdppgpmjaaTw0_3
set_option linter.unusedVariables false
set_option linter.unusedSimpArgs false
set_option linter.unnecessarySimpa false
set_option maxRecDepth 100000
namespace Go.Proofs.Ytcihbmdppgpmjaa.D
open Go.RowKit
set_option maxHeartbeats 8000000 in
theorem c_s_l11Fits (p0a : Int × (List Bool) × (List (List Int))) (r : Bool) (hm : m_s_l11Fits p0a = some r) {I : Hp} {w0 : World} (va0 : Value) (va1 : Value) (ra0 : (rSlice 4 rBool).rd I [va0] p0a.2.1) (ra1 : (rSlice 34 (rSlice 3 rInt)).rd I [va1] p0a.2.2) : Con Try.prog 92 #[.agg #[.int .i64 p0a.1, va0, va1]] I w0 [] (fun v => v = .bool r) (fun v => []) := by
  refine con_of_wp (n := 50) [(0, .agg #[.int .i64 p0a.1, va0, va1])] Try.func92 rfl rfl (Nat.le_of_ble_eq_true rfl) (args_all ⟨rfl, trivial⟩) (fun F w a ha hs => ?_) (fun v => trivial)
  unfold m_s_l11Fits at hm
  refine wp_seq ?_
  refine wp_region_lit ?_
  refine seq_op ha hs rfl (opT_box (u := .agg #[.int .i64 p0a.1, va0, va1]) (l := [.int .i64 p0a.1, va0, va1]) rfl rfl rfl) (List.Perm.refl _) rfl ?_
  rintro _ aq1 wq1 ⟨g1, rfl⟩ haq1 (hsq1 : St I w0 wq1 [Ch.blk g1 [.int .i64 p0a.1, va0, va1] 27, F])
  clear ha hs a w
  refine seq_op0 haq1 hsq1 (opT_assign (v := .bool false) rfl rfl) rfl rfl ?_
  rintro u aq2 wq2 hf haq2 hsq2
  obtain rfl := Eq.symm hf
  clear haq1 hsq1 aq1 wq1
  refine wpList_nil ?_
  replace haq2 := haq2.pick' (L' := [(1, .pointer (some ⟨g1, 0, none⟩))]) ⟨rfl, trivial⟩
  refine nrm ?_
  refine wp_seq ?_
  refine wp_region_lit ?_
  refine seq_op0 haq2 hsq2 (opT_field_addr (g := g1) (b := 0) tf27_1 rfl rfl) rfl rfl ?_
  rintro u aq3 wq3 hf haq3 hsq3
  obtain rfl := Eq.symm hf
  clear haq2 hsq2 aq2 wq2
  refine seq_op haq3 hsq3 rfl (opT_load_blk (g := g1) (off := 1) (E := 27) (l := [.int .i64 p0a.1, va0, va1]) (d := [va0]) (u := va0) ti22 rfl rfl rfl rfl rfl rfl) (perm_front (i := 0) rfl) rfl ?_
  rintro u aq4 wq4 hf haq4 (hsq4 : St I w0 wq4 [Ch.blk g1 [.int .i64 p0a.1, va0, va1] 27, F])
  obtain rfl := Eq.symm hf
  clear haq3 hsq3 aq3 wq3
  refine seq_op0 haq4 hsq4 (opT_len_hd (v := va0) (n := p0a.2.1.length) (Hd.of_rd ra0) Try.underlying22 rfl rfl) rfl rfl ?_
  rintro u aq5 wq5 hf haq5 hsq5
  obtain rfl := Eq.symm hf
  clear haq4 hsq4 aq4 wq4
  refine seq_op0 haq5 hsq5 (opT_assign (v := .int .i64 (p0a.2.1.length : Int)) rfl rfl) rfl rfl ?_
  rintro u aq6 wq6 hf haq6 hsq6
  obtain rfl := Eq.symm hf
  clear haq5 hsq5 aq5 wq5
  refine wpList_nil ?_
  replace haq6 := haq6.pick' (L' := [(1, .pointer (some ⟨g1, 0, none⟩)), (3, .int .i64 (p0a.2.1.length : Int))]) ⟨rfl, rfl, trivial⟩
  refine nrm ?_
  refine wp_seq ?_
  refine wp_seq ?_
  refine wp_region_lit ?_
  refine seq_op0 haq6 hsq6 (opT_field_addr (g := g1) (b := 0) tf27_0 rfl rfl) rfl rfl ?_
  rintro u aq7 wq7 hf haq7 hsq7
  obtain rfl := Eq.symm hf
  clear haq6 hsq6 aq6 wq6
  refine seq_op haq7 hsq7 rfl (opT_load_blk (g := g1) (off := 0) (E := 27) (l := [.int .i64 p0a.1, va0, va1]) (d := [.int .i64 p0a.1]) (u := .int .i64 p0a.1) ti3 rfl rfl rfl rfl rfl rfl) (perm_front (i := 0) rfl) rfl ?_
  rintro u aq8 wq8 hf haq8 (hsq8 : St I w0 wq8 [Ch.blk g1 [.int .i64 p0a.1, va0, va1] 27, F])
  obtain rfl := Eq.symm hf
  clear haq7 hsq7 aq7 wq7
  refine seq_op0 haq8 hsq8 (opT_move (v := .int .i64 (p0a.2.1.length : Int)) rfl rfl) rfl rfl ?_
  rintro u aq9 wq9 hf haq9 hsq9
  obtain rfl := Eq.symm hf
  clear haq8 hsq8 aq8 wq8
  refine seq_op0 haq9 hsq9 (opT_sub (m := (p0a.2.1.length : Int)) (n := 1) rfl rfl rfl) rfl rfl ?_
  rintro u aq10 wq10 hf haq10 hsq10
  obtain rfl := Eq.symm hf
  clear haq9 hsq9 aq9 wq9
  obtain ⟨r1, e1, hm⟩ := bind_some hm
  refine seq_op0 haq10 hsq10 (opT_call (args := #[.int .i64 p0a.1, .int .i64 0, .int .i64 (IntKind.i64.wrap ((p0a.2.1.length : Int) - 1))]) (first := #[]) (captured := #[]) en146 rfl rfl rfl (c_s_l1In p0a.1 0 (IntKind.i64.wrap ((p0a.2.1.length : Int) - 1)) _ e1  )) rfl rfl ?_
  rintro u aq11 wq11 hf haq11 hsq11
  obtain rfl := Eq.symm hf
  clear haq10 hsq10 aq10 wq10
  refine seq_op0 haq11 hsq11 (opT_not (b := r1) rfl rfl) rfl rfl ?_
  rintro u aq12 wq12 hf haq12 hsq12
  obtain rfl := Eq.symm hf
  clear haq11 hsq11 aq11 wq11
  refine seq_op0 haq12 hsq12 (opT_move (v := .bool (!r1)) rfl rfl) rfl rfl ?_
  rintro u aq13 wq13 hf haq13 hsq13
  obtain rfl := Eq.symm hf
  clear haq12 hsq12 aq12 wq12
  rcases two (r1) with hb1 | hb1
  · replace hm := ifFe hb1 hm
    refine seq_skip (g := 6) (d := 15) (want := false) (b := !r1) haq13 hsq13 rfl rfl rfl (notT hb1) rfl ?_
    intro aq14 haq14
    refine seq_skip (g := 6) (d := 15) (want := false) (b := !r1) haq14 hsq13 rfl rfl rfl (notT hb1) rfl ?_
    intro aq15 haq15
    refine seq_skip (g := 6) (d := 15) (want := false) (b := !r1) haq15 hsq13 rfl rfl rfl (notT hb1) rfl ?_
    intro aq16 haq16
    refine seq_skip (g := 6) (d := 15) (want := false) (b := !r1) haq16 hsq13 rfl rfl rfl (notT hb1) rfl ?_
    intro aq17 haq17
    refine seq_skip (g := 6) (d := 15) (want := false) (b := !r1) haq17 hsq13 rfl rfl rfl (notT hb1) rfl ?_
    intro aq18 haq18
    refine seq_op0 haq18 hsq13 (opT_pick (b := !r1) (v := .bool true) rfl rfl (ifT (notT hb1))) rfl rfl ?_
    rintro u aq19 wq19 hf haq19 hsq19
    obtain rfl := Eq.symm hf
    clear haq18 hsq13 aq18 wq13
    refine wpList_nil ?_
    replace haq19 := haq19.pick' (L' := [(1, .pointer (some ⟨g1, 0, none⟩)), (3, .int .i64 (p0a.2.1.length : Int)), (21, .bool true)]) ⟨rfl, rfl, rfl, trivial⟩
    refine nrm ?_
    refine cnd_true (b := true) haq19 rfl rfl rfl ?_
    refine wp_seq ?_
    refine wp_region_lit ?_
    refine seq_op0 haq19 hsq19 (opT_assign (v := .bool false) rfl rfl) rfl rfl ?_
    rintro u aq20 wq20 hf haq20 hsq20
    obtain rfl := Eq.symm hf
    clear haq19 hsq19 aq19 wq19
    refine wpList_nil ?_
    replace haq20 := haq20.pick' (L' := [(2, .bool false)]) ⟨rfl, trivial⟩
    refine nrm ?_
    refine wp_ret ?_
    refine thenR ?_
    obtain rfl := Option.some.inj hm
    exact ret_1 haq20 rfl (res_tmp haq20 rfl) ⟨_, rfl, rfl, _, Hp.le.rfl, St.sel (hsq20) 2 [1] rfl rfl⟩
  · replace hm := ifTe hb1 hm
    refine seq_op_g0 (g := 6) (d := 15) (want := false) (b := !r1) haq13 hsq13 rfl rfl rfl (notF hb1) (opT_field_addr (g := g1) (b := 0) tf27_2 rfl rfl) rfl ?_
    rintro u aq21 wq21 hf haq21 hsq21
    obtain rfl := Eq.symm hf
    clear haq13 hsq13 aq13 wq13
    refine seq_op_g (g := 6) (d := 15) (want := false) (b := !r1) haq21 hsq21 rfl rfl rfl (notF hb1) (opT_load_blk (g := g1) (off := 2) (E := 27) (l := [.int .i64 p0a.1, va0, va1]) (d := [va1]) (u := va1) ti23 rfl rfl rfl rfl rfl rfl) (perm_front (i := 0) rfl) rfl ?_
    rintro u aq22 wq22 hf haq22 (hsq22 : St I w0 wq22 [Ch.blk g1 [.int .i64 p0a.1, va0, va1] 27, F])
    obtain rfl := Eq.symm hf
    clear haq21 hsq21 aq21 wq21
    refine seq_op_g0 (g := 6) (d := 15) (want := false) (b := !r1) haq22 hsq22 rfl rfl rfl (notF hb1) (opT_len_hd (v := va1) (n := p0a.2.2.length) (Hd.of_rd ra1) Try.underlying23 rfl rfl) rfl ?_
    rintro u aq23 wq23 hf haq23 hsq23
    obtain rfl := Eq.symm hf
    clear haq22 hsq22 aq22 wq22
    refine seq_op_g0 (g := 6) (d := 15) (want := false) (b := !r1) haq23 hsq23 rfl rfl rfl (notF hb1) (opT_move (v := .int .i64 (p0a.2.1.length : Int)) rfl rfl) rfl ?_
    rintro u aq24 wq24 hf haq24 hsq24
    obtain rfl := Eq.symm hf
    clear haq23 hsq23 aq23 wq23
    refine seq_op_g0 (g := 6) (d := 15) (want := false) (b := !r1) haq24 hsq24 rfl rfl rfl (notF hb1) (opT_cmp (k := .i64) (m := (p0a.2.2.length : Int)) (n := (p0a.2.1.length : Int)) (c := (p0a.2.2.length : Int) != (p0a.2.1.length : Int)) rfl rfl rfl rfl rfl) rfl ?_
    rintro u aq25 wq25 hf haq25 hsq25
    obtain rfl := Eq.symm hf
    clear haq24 hsq24 aq24 wq24
    refine seq_op0 haq25 hsq25 (opT_pick (b := !r1) (v := .bool ((p0a.2.2.length : Int) != (p0a.2.1.length : Int))) rfl rfl (ifF (notF hb1))) rfl rfl ?_
    rintro u aq26 wq26 hf haq26 hsq26
    obtain rfl := Eq.symm hf
    clear haq25 hsq25 aq25 wq25
    refine wpList_nil ?_
    replace haq26 := haq26.pick' (L' := [(1, .pointer (some ⟨g1, 0, none⟩)), (3, .int .i64 (p0a.2.1.length : Int)), (21, .bool ((p0a.2.2.length : Int) != (p0a.2.1.length : Int)))]) ⟨rfl, rfl, rfl, trivial⟩
    refine nrm ?_
    rcases two ((p0a.2.2.length : Int) != (p0a.2.1.length : Int)) with hb2 | hb2
    · replace hm := ifFe hb2 hm
      refine cnd_false (b := (p0a.2.2.length : Int) != (p0a.2.1.length : Int)) haq26 rfl rfl hb2 ?_
      refine wp_skip ?_
      refine nrm ?_
      refine wp_seq ?_
      refine wp_seq ?_
      refine wp_region_lit ?_
      refine seq_op0 haq26 hsq26 (opT_assign (v := .int .i64 0) rfl rfl) rfl rfl ?_
      rintro u aq27 wq27 hf haq27 hsq27
      obtain rfl := Eq.symm hf
      clear haq26 hsq26 aq26 wq26
      refine wpList_nil ?_
      replace haq27 := haq27.pick' (L' := [(1, .pointer (some ⟨g1, 0, none⟩)), (3, .int .i64 (p0a.2.1.length : Int)), (4, .int .i64 0)]) ⟨rfl, rfl, rfl, trivial⟩
      refine nrm ?_
      obtain ⟨o5, hl3, hc3⟩ := bindL_some hm
      refine wp_cut (fun a w => ∃ s12 : Int, o5 = .brk s12 ∧ Agr 50 a [] ∧ St I w0 w [F]) ?_ ?_
      · refine wp_block (wp_loopM (R := Bool) (S := Int) (fun s11 a w => Agr 50 a [(1, .pointer (some ⟨g1, 0, none⟩)), (3, .int .i64 (p0a.2.1.length : Int)), (4, .int .i64 s11)] ∧ St I w0 w [Ch.blk g1 [.int .i64 p0a.1, va0, va1] 27, F]) hl3 ?_ ?_)
        · exact ⟨haq27.pick' ⟨rfl, rfl, rfl, trivial⟩, St.sel hsq27 2 [0, 1] rfl rfl⟩
        · rintro s11 o6 hm hf3 aq170 wq170 ⟨haq170, hsq170⟩
          unfold m_s_l11Fits_l0 at hm
          refine wp_seq ?_
          refine wp_seq ?_
          refine wp_region_lit ?_
          refine seq_op0 haq170 hsq170 (opT_move (v := .int .i64 s11) rfl rfl) rfl rfl ?_
          rintro u aq171 wq171 hf haq171 hsq171
          obtain rfl := Eq.symm hf
          clear haq170 hsq170 aq170 wq170
          refine seq_op0 haq171 hsq171 (opT_move (v := .int .i64 (p0a.2.1.length : Int)) rfl rfl) rfl rfl ?_
          rintro u aq172 wq172 hf haq172 hsq172
          obtain rfl := Eq.symm hf
          clear haq171 hsq171 aq171 wq171
          refine seq_op0 haq172 hsq172 (opT_cmp (k := .i64) (m := s11) (n := (p0a.2.1.length : Int)) (c := decide (s11 < (p0a.2.1.length : Int))) rfl rfl rfl rfl rfl) rfl rfl ?_
          rintro u aq173 wq173 hf haq173 hsq173
          obtain rfl := Eq.symm hf
          clear haq172 hsq172 aq172 wq172
          refine wpList_nil ?_
          replace haq173 := haq173.pick' (L' := [(1, .pointer (some ⟨g1, 0, none⟩)), (3, .int .i64 (p0a.2.1.length : Int)), (4, .int .i64 s11), (24, .bool (decide (s11 < (p0a.2.1.length : Int))))]) ⟨rfl, rfl, rfl, rfl, trivial⟩
          refine nrm ?_
          rcases two (decide (s11 < (p0a.2.1.length : Int))) with hb19 | hb19
          · replace hm := ifFe hb19 hm
            refine cnd_false (b := decide (s11 < (p0a.2.1.length : Int))) haq173 rfl rfl hb19 ?_
            refine wp_exit ?_
            refine thenX ?_
            refine thenX ?_
            refine ex_in ?_
            refine nrm ?_
            exact ⟨_, loopBrk hm hf3, ⟨haq173.pick' trivial, St.sel hsq173 2 [1] rfl rfl⟩⟩
          · replace hm := ifTe hb19 hm
            refine cnd_true (b := decide (s11 < (p0a.2.1.length : Int))) haq173 rfl rfl hb19 ?_
            refine wp_skip ?_
            refine nrm ?_
            refine wp_seq ?_
            refine wp_block ?_
            refine wp_seq ?_
            refine wp_seq ?_
            refine wp_region_lit ?_
            refine seq_op0 haq173 hsq173 (opT_field_addr (g := g1) (b := 0) tf27_2 rfl rfl) rfl rfl ?_
            rintro u aq174 wq174 hf haq174 hsq174
            obtain rfl := Eq.symm hf
            clear haq173 hsq173 aq173 wq173
            refine seq_op haq174 hsq174 rfl (opT_load_blk (g := g1) (off := 2) (E := 27) (l := [.int .i64 p0a.1, va0, va1]) (d := [va1]) (u := va1) ti23 rfl rfl rfl rfl rfl rfl) (perm_front (i := 0) rfl) rfl ?_
            rintro u aq175 wq175 hf haq175 (hsq175 : St I w0 wq175 [Ch.blk g1 [.int .i64 p0a.1, va0, va1] 27, F])
            obtain rfl := Eq.symm hf
            clear haq174 hsq174 aq174 wq174
            refine seq_op0 haq175 hsq175 (opT_move (v := .int .i64 s11) rfl rfl) rfl rfl ?_
            rintro u aq176 wq176 hf haq176 hsq176
            obtain rfl := Eq.symm hf
            clear haq175 hsq175 aq175 wq175
            obtain ⟨x15, e22, hm⟩ := bind_some hm
            refine seq_op0 haq176 hsq176 (opT_index_hd (xs := p0a.2.2) (i := s11) (n := 1) (Hd.of_rd ra1) Try.underlying23 ti34 rfl rfl rfl (getI_in e22)) rfl rfl ?_
            rintro u aq177 wq177 hf haq177 hsq177
            obtain rfl := Eq.symm hf
            clear haq176 hsq176 aq176 wq176
            refine seq_op0 haq177 hsq177 (opT_load_el (S := rSlice 3 rInt) (xs := p0a.2.2) (a := x15) (i := s11) (k := 1) (off := 0) (f := fun (x : List Int) => x) ra1 e22 Fld.self ti34 rfl rfl rfl rfl rfl) rfl rfl ?_
            rintro v9 aq178 wq178 hf haq178 hsq178
            have r16 := lds_sl hf
            clear hf
            clear haq177 hsq177 aq177 wq177
            refine seq_op0 haq178 hsq178 (opT_len_hd (v := v9) (n := x15.length) (Hd.of_rd r16) Try.underlying34 rfl rfl) rfl rfl ?_
            rintro u aq179 wq179 hf haq179 hsq179
            obtain rfl := Eq.symm hf
            clear haq178 hsq178 aq178 wq178
            refine seq_op0 haq179 hsq179 (opT_cmp (k := .i64) (m := (x15.length : Int)) (n := 9) (c := (x15.length : Int) != 9) rfl rfl rfl rfl rfl) rfl rfl ?_
            rintro u aq180 wq180 hf haq180 hsq180
            obtain rfl := Eq.symm hf
            clear haq179 hsq179 aq179 wq179
            refine wpList_nil ?_
            replace haq180 := haq180.pick' (L' := [(1, .pointer (some ⟨g1, 0, none⟩)), (3, .int .i64 (p0a.2.1.length : Int)), (4, .int .i64 s11), (33, .bool ((x15.length : Int) != 9))]) ⟨rfl, rfl, rfl, rfl, trivial⟩
            refine nrm ?_
            rcases two ((x15.length : Int) != 9) with hb20 | hb20
            · replace hm := ifFe hb20 hm
              refine cnd_false (b := (x15.length : Int) != 9) haq180 rfl rfl hb20 ?_
              refine wp_skip ?_
              refine nrm ?_
              refine wp_seq ?_
              refine wp_region_lit ?_
              refine seq_op0 haq180 hsq180 (opT_assign (v := .int .i64 0) rfl rfl) rfl rfl ?_
              rintro u aq181 wq181 hf haq181 hsq181
              obtain rfl := Eq.symm hf
              clear haq180 hsq180 aq180 wq180
              refine wpList_nil ?_
              replace haq181 := haq181.pick' (L' := [(1, .pointer (some ⟨g1, 0, none⟩)), (3, .int .i64 (p0a.2.1.length : Int)), (4, .int .i64 s11), (5, .int .i64 0)]) ⟨rfl, rfl, rfl, rfl, trivial⟩
              refine nrm ?_
              obtain ⟨o7, hl4, hc4⟩ := bindL_some hm
              refine wp_cut (fun a w => ∃ s16 : Int, o7 = .brk s16 ∧ Agr 50 a [(1, .pointer (some ⟨g1, 0, none⟩)), (3, .int .i64 (p0a.2.1.length : Int)), (4, .int .i64 s11)] ∧ St I w0 w [Ch.blk g1 [.int .i64 p0a.1, va0, va1] 27, F]) ?_ ?_
              · refine wp_block (wp_loopM (R := Bool) (S := Int) (fun s15 a w => Agr 50 a [(1, .pointer (some ⟨g1, 0, none⟩)), (3, .int .i64 (p0a.2.1.length : Int)), (4, .int .i64 s11), (5, .int .i64 s15)] ∧ St I w0 w [Ch.blk g1 [.int .i64 p0a.1, va0, va1] 27, F]) hl4 ?_ ?_)
                · exact ⟨haq181.pick' ⟨rfl, rfl, rfl, rfl, trivial⟩, St.sel hsq181 2 [0, 1] rfl rfl⟩
                · rintro s15 o8 hm hf4 aq218 wq218 ⟨haq218, hsq218⟩
                  unfold m_s_l11Fits_l1 at hm
                  refine wp_seq ?_
                  refine wp_seq ?_
                  refine wp_region_lit ?_
                  refine seq_op0 haq218 hsq218 (opT_move (v := .int .i64 s15) rfl rfl) rfl rfl ?_
                  rintro u aq219 wq219 hf haq219 hsq219
                  obtain rfl := Eq.symm hf
                  clear haq218 hsq218 aq218 wq218
                  refine seq_op0 haq219 hsq219 (opT_cmp (k := .i64) (m := s15) (n := 9) (c := decide (s15 < 9)) rfl rfl rfl rfl rfl) rfl rfl ?_
                  rintro u aq220 wq220 hf haq220 hsq220
                  obtain rfl := Eq.symm hf
                  clear haq219 hsq219 aq219 wq219
                  refine wpList_nil ?_
                  replace haq220 := haq220.pick' (L' := [(1, .pointer (some ⟨g1, 0, none⟩)), (3, .int .i64 (p0a.2.1.length : Int)), (4, .int .i64 s11), (5, .int .i64 s15), (35, .bool (decide (s15 < 9)))]) ⟨rfl, rfl, rfl, rfl, rfl, trivial⟩
                  refine nrm ?_
                  rcases two (decide (s15 < 9)) with hb25 | hb25
                  · replace hm := ifFe hb25 hm
                    refine cnd_false (b := decide (s15 < 9)) haq220 rfl rfl hb25 ?_
                    refine wp_exit ?_
                    refine thenX ?_
                    refine thenX ?_
                    refine ex_in ?_
                    refine nrm ?_
                    exact ⟨_, loopBrk hm hf4, ⟨haq220.pick' ⟨rfl, rfl, rfl, trivial⟩, St.sel hsq220 2 [0, 1] rfl rfl⟩⟩
                  · replace hm := ifTe hb25 hm
                    refine cnd_true (b := decide (s15 < 9)) haq220 rfl rfl hb25 ?_
                    refine wp_skip ?_
                    refine nrm ?_
                    refine wp_seq ?_
                    refine wp_block ?_
                    refine wp_seq ?_
                    refine wp_region_lit ?_
                    refine seq_op0 haq220 hsq220 (opT_field_addr (g := g1) (b := 0) tf27_2 rfl rfl) rfl rfl ?_
                    rintro u aq221 wq221 hf haq221 hsq221
                    obtain rfl := Eq.symm hf
                    clear haq220 hsq220 aq220 wq220
                    refine seq_op haq221 hsq221 rfl (opT_load_blk (g := g1) (off := 2) (E := 27) (l := [.int .i64 p0a.1, va0, va1]) (d := [va1]) (u := va1) ti23 rfl rfl rfl rfl rfl rfl) (perm_front (i := 0) rfl) rfl ?_
                    rintro u aq222 wq222 hf haq222 (hsq222 : St I w0 wq222 [Ch.blk g1 [.int .i64 p0a.1, va0, va1] 27, F])
                    obtain rfl := Eq.symm hf
                    clear haq221 hsq221 aq221 wq221
                    refine seq_op0 haq222 hsq222 (opT_move (v := .int .i64 s11) rfl rfl) rfl rfl ?_
                    rintro u aq223 wq223 hf haq223 hsq223
                    obtain rfl := Eq.symm hf
                    clear haq222 hsq222 aq222 wq222
                    obtain ⟨x20, e29, hm⟩ := bind_some hm
                    refine seq_op0 haq223 hsq223 (opT_index_hd (xs := p0a.2.2) (i := s11) (n := 1) (Hd.of_rd ra1) Try.underlying23 ti34 rfl rfl rfl (getI_in e29)) rfl rfl ?_
                    rintro u aq224 wq224 hf haq224 hsq224
                    obtain rfl := Eq.symm hf
                    clear haq223 hsq223 aq223 wq223
                    refine seq_op0 haq224 hsq224 (opT_load_el (S := rSlice 3 rInt) (xs := p0a.2.2) (a := x20) (i := s11) (k := 1) (off := 0) (f := fun (x : List Int) => x) ra1 e29 Fld.self ti34 rfl rfl rfl rfl rfl) rfl rfl ?_
                    rintro v12 aq225 wq225 hf haq225 hsq225
                    have r21 := lds_sl hf
                    clear hf
                    clear haq224 hsq224 aq224 wq224
                    refine seq_op0 haq225 hsq225 (opT_move (v := .int .i64 s15) rfl rfl) rfl rfl ?_
                    rintro u aq226 wq226 hf haq226 hsq226
                    obtain rfl := Eq.symm hf
                    clear haq225 hsq225 aq225 wq225
                    obtain ⟨x21, e30, hm⟩ := bind_some hm
                    refine seq_op0 haq226 hsq226 (opT_index_hd (xs := x20) (i := s15) (n := 1) (Hd.of_rd r21) Try.underlying34 ti3 rfl rfl rfl (getI_in e30)) rfl rfl ?_
                    rintro u aq227 wq227 hf haq227 hsq227
                    obtain rfl := Eq.symm hf
                    clear haq226 hsq226 aq226 wq226
                    refine seq_op0 haq227 hsq227 (opT_load_el (S := rInt) (xs := x20) (a := x21) (i := s15) (k := 1) (off := 0) (f := fun (x : Int) => x) r21 e30 Fld.self ti3 rfl rfl rfl rfl rfl) rfl rfl ?_
                    rintro u aq228 wq228 hf haq228 hsq228
                    obtain rfl := lds_one hf
                    clear haq227 hsq227 aq227 wq227
                    refine seq_op0 haq228 hsq228 (opT_move (v := .int .i64 (p0a.2.1.length : Int)) rfl rfl) rfl rfl ?_
                    rintro u aq229 wq229 hf haq229 hsq229
                    obtain rfl := Eq.symm hf
                    clear haq228 hsq228 aq228 wq228
                    refine seq_op0 haq229 hsq229 (opT_sub (m := (p0a.2.1.length : Int)) (n := 1) rfl rfl rfl) rfl rfl ?_
                    rintro u aq230 wq230 hf haq230 hsq230
                    obtain rfl := Eq.symm hf
                    clear haq229 hsq229 aq229 wq229
                    obtain ⟨r22, e31, hm⟩ := bind_some hm
                    refine seq_op0 haq230 hsq230 (opT_call (args := #[.int .i64 x21, .int .i64 (-1), .int .i64 (IntKind.i64.wrap ((p0a.2.1.length : Int) - 1))]) (first := #[]) (captured := #[]) en146 rfl rfl rfl (c_s_l1In x21 (-1) (IntKind.i64.wrap ((p0a.2.1.length : Int) - 1)) _ e31  )) rfl rfl ?_
                    rintro u aq231 wq231 hf haq231 hsq231
                    obtain rfl := Eq.symm hf
                    clear haq230 hsq230 aq230 wq230
                    refine seq_op0 haq231 hsq231 (opT_not (b := r22) rfl rfl) rfl rfl ?_
                    rintro u aq232 wq232 hf haq232 hsq232
                    obtain rfl := Eq.symm hf
                    clear haq231 hsq231 aq231 wq231
                    refine wpList_nil ?_
                    replace haq232 := haq232.pick' (L' := [(1, .pointer (some ⟨g1, 0, none⟩)), (3, .int .i64 (p0a.2.1.length : Int)), (4, .int .i64 s11), (5, .int .i64 s15), (49, .bool (!r22))]) ⟨rfl, rfl, rfl, rfl, rfl, trivial⟩
                    refine nrm ?_
                    rcases two (r22) with hb26 | hb26
                    · replace hm := ifFe hb26 hm
                      refine cnd_true (b := !r22) haq232 rfl rfl (notT hb26) ?_
                      refine wp_seq ?_
                      refine wp_region_lit ?_
                      refine seq_op0 haq232 hsq232 (opT_assign (v := .bool false) rfl rfl) rfl rfl ?_
                      rintro u aq233 wq233 hf haq233 hsq233
                      obtain rfl := Eq.symm hf
                      clear haq232 hsq232 aq232 wq232
                      refine wpList_nil ?_
                      replace haq233 := haq233.pick' (L' := [(2, .bool false)]) ⟨rfl, trivial⟩
                      refine nrm ?_
                      refine wp_ret ?_
                      refine blkR ?_
                      refine thenR ?_
                      refine thenR ?_
                      refine blkR ?_
                      refine thenR ?_
                      refine blkR ?_
                      refine thenR ?_
                      refine thenR ?_
                      refine blkR ?_
                      refine thenR ?_
                      refine thenR ?_
                      replace hm := loopRet hm hf4 hc4
                      replace hm := loopRet hm hf3 hc3
                      obtain rfl := Option.some.inj hm
                      exact ret_1 haq233 rfl (res_tmp haq233 rfl) ⟨_, rfl, rfl, _, Hp.le.rfl, St.sel (hsq233) 2 [1] rfl rfl⟩
                    · replace hm := ifTe hb26 hm
                      refine cnd_false (b := !r22) haq232 rfl rfl (notF hb26) ?_
                      refine wp_skip ?_
                      refine nrmB ?_
                      refine nrm ?_
                      refine wp_region_lit ?_
                      refine seq_op0 haq232 hsq232 (opT_move (v := .int .i64 s15) rfl rfl) rfl rfl ?_
                      rintro u aq234 wq234 hf haq234 hsq234
                      obtain rfl := Eq.symm hf
                      clear haq232 hsq232 aq232 wq232
                      refine seq_op0 haq234 hsq234 (opT_add (m := s15) (n := 1) rfl rfl rfl) rfl rfl ?_
                      rintro u aq235 wq235 hf haq235 hsq235
                      obtain rfl := Eq.symm hf
                      clear haq234 hsq234 aq234 wq234
                      refine seq_op0 haq235 hsq235 (opT_assign (v := .int .i64 (IntKind.i64.wrap (s15 + 1))) rfl rfl) rfl rfl ?_
                      rintro u aq236 wq236 hf haq236 hsq236
                      obtain rfl := Eq.symm hf
                      clear haq235 hsq235 aq235 wq235
                      refine wpList_nil ?_
                      replace haq236 := haq236.pick' (L' := [(1, .pointer (some ⟨g1, 0, none⟩)), (3, .int .i64 (p0a.2.1.length : Int)), (4, .int .i64 s11), (5, .int .i64 (IntKind.i64.wrap (s15 + 1)))]) ⟨rfl, rfl, rfl, rfl, trivial⟩
                      refine nrm ?_
                      exact ⟨_, (Option.some.inj hm).symm, ⟨haq236.pick' ⟨rfl, rfl, rfl, rfl, trivial⟩, St.sel hsq236 2 [0, 1] rfl rfl⟩⟩
              · rintro aq237 wq237 ⟨s16, ho3, haq237, hsq237⟩
                replace hm := loopOut ho3 hc4
                clear ho3 hc4 hl4
                refine nrmB ?_
                refine nrm ?_
                refine wp_region_lit ?_
                refine seq_op0 haq237 hsq237 (opT_move (v := .int .i64 s11) rfl rfl) rfl rfl ?_
                rintro u aq238 wq238 hf haq238 hsq238
                obtain rfl := Eq.symm hf
                clear haq237 hsq237 aq237 wq237
                refine seq_op0 haq238 hsq238 (opT_add (m := s11) (n := 1) rfl rfl rfl) rfl rfl ?_
                rintro u aq239 wq239 hf haq239 hsq239
                obtain rfl := Eq.symm hf
                clear haq238 hsq238 aq238 wq238
                refine seq_op0 haq239 hsq239 (opT_assign (v := .int .i64 (IntKind.i64.wrap (s11 + 1))) rfl rfl) rfl rfl ?_
                rintro u aq240 wq240 hf haq240 hsq240
                obtain rfl := Eq.symm hf
                clear haq239 hsq239 aq239 wq239
                refine wpList_nil ?_
                replace haq240 := haq240.pick' (L' := [(1, .pointer (some ⟨g1, 0, none⟩)), (3, .int .i64 (p0a.2.1.length : Int)), (4, .int .i64 (IntKind.i64.wrap (s11 + 1)))]) ⟨rfl, rfl, rfl, trivial⟩
                refine nrm ?_
                exact ⟨_, (Option.some.inj hm).symm, ⟨haq240.pick' ⟨rfl, rfl, rfl, trivial⟩, St.sel hsq240 2 [0, 1] rfl rfl⟩⟩
            · replace hm := ifTe hb20 hm
              refine cnd_true (b := (x15.length : Int) != 9) haq180 rfl rfl hb20 ?_
              refine wp_seq ?_
              refine wp_region_lit ?_
              refine seq_op0 haq180 hsq180 (opT_assign (v := .bool false) rfl rfl) rfl rfl ?_
              rintro u aq241 wq241 hf haq241 hsq241
              obtain rfl := Eq.symm hf
              clear haq180 hsq180 aq180 wq180
              refine wpList_nil ?_
              replace haq241 := haq241.pick' (L' := [(2, .bool false)]) ⟨rfl, trivial⟩
              refine nrm ?_
              refine wp_ret ?_
              refine thenR ?_
              refine blkR ?_
              refine thenR ?_
              refine thenR ?_
              refine blkR ?_
              refine thenR ?_
              refine thenR ?_
              replace hm := loopRet hm hf3 hc3
              obtain rfl := Option.some.inj hm
              exact ret_1 haq241 rfl (res_tmp haq241 rfl) ⟨_, rfl, rfl, _, Hp.le.rfl, St.sel (hsq241) 2 [1] rfl rfl⟩
      · rintro aq242 wq242 ⟨s12, ho4, haq242, hsq242⟩
        replace hm := loopOut ho4 hc3
        clear ho4 hc3 hl3
        refine nrm ?_
        refine wp_seq ?_
        refine wp_region_lit ?_
        refine seq_op0 haq242 hsq242 (opT_assign (v := .bool true) rfl rfl) rfl rfl ?_
        rintro u aq243 wq243 hf haq243 hsq243
        obtain rfl := Eq.symm hf
        clear haq242 hsq242 aq242 wq242
        refine wpList_nil ?_
        replace haq243 := haq243.pick' (L' := [(2, .bool true)]) ⟨rfl, trivial⟩
        refine nrm ?_
        refine wp_ret ?_
        obtain rfl := Option.some.inj hm
        exact ret_1 haq243 rfl (res_tmp haq243 rfl) ⟨_, rfl, rfl, _, Hp.le.rfl, St.sel (hsq243) 1 [0] rfl rfl⟩
    · replace hm := ifTe hb2 hm
      refine cnd_true (b := (p0a.2.2.length : Int) != (p0a.2.1.length : Int)) haq26 rfl rfl hb2 ?_
      refine wp_seq ?_
      refine wp_region_lit ?_
      refine seq_op0 haq26 hsq26 (opT_assign (v := .bool false) rfl rfl) rfl rfl ?_
      rintro u aq244 wq244 hf haq244 hsq244
      obtain rfl := Eq.symm hf
      clear haq26 hsq26 aq26 wq26
      refine wpList_nil ?_
      replace haq244 := haq244.pick' (L' := [(2, .bool false)]) ⟨rfl, trivial⟩
      refine nrm ?_
      refine wp_ret ?_
      refine thenR ?_
      obtain rfl := Option.some.inj hm
      exact ret_1 haq244 rfl (res_tmp haq244 rfl) ⟨_, rfl, rfl, _, Hp.le.rfl, St.sel (hsq244) 2 [1] rfl rfl⟩
set_option maxHeartbeats 8000000 in
theorem c_w_eqIntSS (p0a : List (List Int)) (p1b : List (List Int)) (r : Bool) (hm : m_w_eqIntSS p0a p1b = some r) {I : Hp} {w0 : World} (va0 : Value) (va1 : Value) (ra0 : (rSlice 34 (rSlice 3 rInt)).rd I [va0] p0a) (ra1 : (rSlice 34 (rSlice 3 rInt)).rd I [va1] p1b) : Con Try.prog 54 #[va0, va1] I w0 [] (fun v => v = .bool r) (fun v => []) := by
  refine con_of_wp (n := 27) [(0, va0), (1, va1)] Try.func54 rfl rfl (Nat.le_of_ble_eq_true rfl) (args_all ⟨rfl, rfl, trivial⟩) (fun F w a ha hs => ?_) (fun v => trivial)
  unfold m_w_eqIntSS at hm
  refine wp_seq ?_
  refine wp_region_lit ?_
  refine seq_op0 ha hs (opT_assign (v := .bool false) rfl rfl) rfl rfl ?_
  rintro u aq1 wq1 hf haq1 hsq1
  obtain rfl := Eq.symm hf
  clear ha hs a w
  refine wpList_nil ?_
  replace haq1 := haq1.pick' (L' := [(0, va0), (1, va1)]) ⟨rfl, rfl, trivial⟩
  refine nrm ?_
  refine wp_seq ?_
  refine wp_seq ?_
  refine wp_region_lit ?_
  refine seq_op0 haq1 hsq1 (opT_move (v := va0) rfl rfl) rfl rfl ?_
  rintro u aq2 wq2 hf haq2 hsq2
  obtain rfl := Eq.symm hf
  clear haq1 hsq1 aq1 wq1
  refine seq_op0 haq2 hsq2 (opT_len_hd (v := va0) (n := p0a.length) (Hd.of_rd ra0) Try.underlying23 rfl rfl) rfl rfl ?_
  rintro u aq3 wq3 hf haq3 hsq3
  obtain rfl := Eq.symm hf
  clear haq2 hsq2 aq2 wq2
  refine seq_op0 haq3 hsq3 (opT_move (v := va1) rfl rfl) rfl rfl ?_
  rintro u aq4 wq4 hf haq4 hsq4
  obtain rfl := Eq.symm hf
  clear haq3 hsq3 aq3 wq3
  refine seq_op0 haq4 hsq4 (opT_len_hd (v := va1) (n := p1b.length) (Hd.of_rd ra1) Try.underlying23 rfl rfl) rfl rfl ?_
  rintro u aq5 wq5 hf haq5 hsq5
  obtain rfl := Eq.symm hf
  clear haq4 hsq4 aq4 wq4
  refine seq_op0 haq5 hsq5 (opT_cmp (k := .i64) (m := (p0a.length : Int)) (n := (p1b.length : Int)) (c := (p0a.length : Int) != (p1b.length : Int)) rfl rfl rfl rfl rfl) rfl rfl ?_
  rintro u aq6 wq6 hf haq6 hsq6
  obtain rfl := Eq.symm hf
  clear haq5 hsq5 aq5 wq5
  refine wpList_nil ?_
  replace haq6 := haq6.pick' (L' := [(0, va0), (1, va1), (10, .bool ((p0a.length : Int) != (p1b.length : Int)))]) ⟨rfl, rfl, rfl, trivial⟩
  refine nrm ?_
  rcases two ((p0a.length : Int) != (p1b.length : Int)) with hb1 | hb1
  · replace hm := ifFe hb1 hm
    refine cnd_false (b := (p0a.length : Int) != (p1b.length : Int)) haq6 rfl rfl hb1 ?_
    refine wp_skip ?_
    refine nrm ?_
    refine wp_seq ?_
    refine wp_seq ?_
    refine wp_region_lit ?_
    refine seq_op0 haq6 hsq6 (opT_assign (v := .int .i64 0) rfl rfl) rfl rfl ?_
    rintro u aq7 wq7 hf haq7 hsq7
    obtain rfl := Eq.symm hf
    clear haq6 hsq6 aq6 wq6
    refine wpList_nil ?_
    replace haq7 := haq7.pick' (L' := [(0, va0), (1, va1), (5, .int .i64 0)]) ⟨rfl, rfl, rfl, trivial⟩
    refine nrm ?_
    obtain ⟨o1, hl1, hc1⟩ := bindL_some hm
    refine wp_cut (fun a w => ∃ s4 : Int, o1 = .brk s4 ∧ Agr 27 a [] ∧ St I w0 w [F]) ?_ ?_
    · refine wp_block (wp_loopM (R := Bool) (S := Int) (fun s3 a w => Agr 27 a [(0, va0), (1, va1), (5, .int .i64 s3)] ∧ St I w0 w [F]) hl1 ?_ ?_)
      · exact ⟨haq7.pick' ⟨rfl, rfl, rfl, trivial⟩, St.sel hsq7 1 [0] rfl rfl⟩
      · rintro s3 o2 hm hf1 aq24 wq24 ⟨haq24, hsq24⟩
        unfold m_w_eqIntSS_l0 at hm
        refine wp_seq ?_
        refine wp_seq ?_
        refine wp_region_lit ?_
        refine seq_op0 haq24 hsq24 (opT_move (v := .int .i64 s3) rfl rfl) rfl rfl ?_
        rintro u aq25 wq25 hf haq25 hsq25
        obtain rfl := Eq.symm hf
        clear haq24 hsq24 aq24 wq24
        refine seq_op0 haq25 hsq25 (opT_move (v := va0) rfl rfl) rfl rfl ?_
        rintro u aq26 wq26 hf haq26 hsq26
        obtain rfl := Eq.symm hf
        clear haq25 hsq25 aq25 wq25
        refine seq_op0 haq26 hsq26 (opT_len_hd (v := va0) (n := p0a.length) (Hd.of_rd ra0) Try.underlying23 rfl rfl) rfl rfl ?_
        rintro u aq27 wq27 hf haq27 hsq27
        obtain rfl := Eq.symm hf
        clear haq26 hsq26 aq26 wq26
        refine seq_op0 haq27 hsq27 (opT_cmp (k := .i64) (m := s3) (n := (p0a.length : Int)) (c := decide (s3 < (p0a.length : Int))) rfl rfl rfl rfl rfl) rfl rfl ?_
        rintro u aq28 wq28 hf haq28 hsq28
        obtain rfl := Eq.symm hf
        clear haq27 hsq27 aq27 wq27
        refine wpList_nil ?_
        replace haq28 := haq28.pick' (L' := [(0, va0), (1, va1), (5, .int .i64 s3), (14, .bool (decide (s3 < (p0a.length : Int))))]) ⟨rfl, rfl, rfl, rfl, trivial⟩
        refine nrm ?_
        rcases two (decide (s3 < (p0a.length : Int))) with hb6 | hb6
        · replace hm := ifFe hb6 hm
          refine cnd_false (b := decide (s3 < (p0a.length : Int))) haq28 rfl rfl hb6 ?_
          refine wp_exit ?_
          refine thenX ?_
          refine thenX ?_
          refine ex_in ?_
          refine nrm ?_
          exact ⟨_, loopBrk hm hf1, ⟨haq28.pick' trivial, St.sel hsq28 1 [0] rfl rfl⟩⟩
        · replace hm := ifTe hb6 hm
          refine cnd_true (b := decide (s3 < (p0a.length : Int))) haq28 rfl rfl hb6 ?_
          refine wp_skip ?_
          refine nrm ?_
          refine wp_seq ?_
          refine wp_block ?_
          refine wp_seq ?_
          obtain ⟨x5, e7, hm⟩ := bind_some hm
          obtain ⟨x6, e8, hm⟩ := bind_some hm
          obtain ⟨r9, e9, hm⟩ := bind_some hm
          refine wp_draw (L := [(0, va0), (1, va1), (5, .int .i64 s3), (14, .bool (decide (s3 < (p0a.length : Int))))]) (C := [F]) { ops := [⟨[], [], [], [0], fun | [xo0] => xo0 = va0 | _ => True, [(0, none)]⟩, ⟨[], [], [], [1], fun | [xo1] => xo1 = .int .i64 s3 | _ => True, [(5, none)]⟩, ⟨[], [], [], [2], fun | [xo2] => xo2 = pt va0 (s3.toNat * 1) | _ => True, [(17, some 0), (18, some 1)]⟩, ⟨[], [], [], [3], fun | [xo3] => (rSlice 3 rInt).rd I [xo3] x5 | _ => True, [(19, some 2)]⟩, ⟨[], [], [], [4], fun | [xo4] => xo4 = va1 | _ => True, [(1, none)]⟩, ⟨[], [], [], [5], fun | [xo5] => xo5 = .int .i64 s3 | _ => True, [(5, none)]⟩, ⟨[], [], [], [6], fun | [xo6] => xo6 = pt va1 (s3.toNat * 1) | _ => True, [(21, some 4), (22, some 5)]⟩, ⟨[], [], [], [7], fun | [xo7] => (rSlice 3 rInt).rd I [xo7] x6 | _ => True, [(23, some 6)]⟩, ⟨[], [], [], [8], fun | [xo8] => xo8 = .bool r9 | _ => True, [(20, some 3), (24, some 7)]⟩, ⟨[], [], [], [9], fun | [xo9] => xo9 = .bool (!r9) | _ => True, [(25, some 8)]⟩], res := [], base := [], pre := [[], [], [0, 1], [0, 1, 2], [], [], [4, 5], [4, 5, 6], [0, 1, 2, 3, 4, 5, 6, 7], [0, 1, 2, 3, 4, 5, 6, 7, 8]], fin := [(0, none), (1, none), (5, none), (26, some 9)], left := [] } (by kernel_rfl) haq28 hsq28 (perm_sel [0] (m := 1) rfl rfl) (by kernel_rfl) (by kernel_rfl) ?_ ?_
          · exact ⟨Plan.goal_run fun vs hf => ⟨wants_none rfl, OpT.conv (OpT.evs (ev' := evL [(0, va0)]) (opT_move (v := va0) rfl rfl) rfl [.tmp 0] rfl ⟨rfl, trivial⟩) rfl (fun _ h => Eq.trans h rfl) (fun _ => rfl)⟩, Plan.goal_run fun vs hf => ⟨wants_none rfl, OpT.conv (OpT.evs (ev' := evL [(5, .int .i64 s3)]) (opT_move (v := .int .i64 s3) rfl rfl) rfl [.tmp 5] rfl ⟨rfl, trivial⟩) rfl (fun _ h => Eq.trans h rfl) (fun _ => rfl)⟩, Plan.goal_run fun vs hf => ⟨wants_none rfl, OpT.conv (OpT.evs (ev' := evL [(17, va0), (18, .int .i64 s3)]) (opT_index_hd (xs := p0a) (i := s3) (n := 1) (Hd.of_rd ra0) Try.underlying23 ti34 rfl rfl rfl (getI_in e7)) rfl [.tmp 17, .tmp 18] rfl ⟨(hf 0 (mb rfl)), (hf 1 (mb rfl)), trivial⟩) rfl (fun _ h => Eq.trans h rfl) (fun _ => rfl)⟩, Plan.goal_run fun vs hf => ⟨wants_none rfl, OpT.conv (OpT.evs (ev' := evL [(19, pt va0 (s3.toNat * 1))]) (opT_load_el (S := rSlice 3 rInt) (xs := p0a) (a := x5) (i := s3) (k := 1) (off := 0) (f := fun (x : List Int) => x) ra0 e7 Fld.self ti34 rfl rfl rfl rfl rfl) rfl [.tmp 19] rfl ⟨(hf 2 (mb rfl)), trivial⟩) rfl (fun _ h => lds_sl h) (fun _ => rfl)⟩, Plan.goal_run fun vs hf => ⟨wants_none rfl, OpT.conv (OpT.evs (ev' := evL [(1, va1)]) (opT_move (v := va1) rfl rfl) rfl [.tmp 1] rfl ⟨rfl, trivial⟩) rfl (fun _ h => Eq.trans h rfl) (fun _ => rfl)⟩, Plan.goal_run fun vs hf => ⟨wants_none rfl, OpT.conv (OpT.evs (ev' := evL [(5, .int .i64 s3)]) (opT_move (v := .int .i64 s3) rfl rfl) rfl [.tmp 5] rfl ⟨rfl, trivial⟩) rfl (fun _ h => Eq.trans h rfl) (fun _ => rfl)⟩, Plan.goal_run fun vs hf => ⟨wants_none rfl, OpT.conv (OpT.evs (ev' := evL [(21, va1), (22, .int .i64 s3)]) (opT_index_hd (xs := p1b) (i := s3) (n := 1) (Hd.of_rd ra1) Try.underlying23 ti34 rfl rfl rfl (getI_in e8)) rfl [.tmp 21, .tmp 22] rfl ⟨(hf 4 (mb rfl)), (hf 5 (mb rfl)), trivial⟩) rfl (fun _ h => Eq.trans h rfl) (fun _ => rfl)⟩, Plan.goal_run fun vs hf => ⟨wants_none rfl, OpT.conv (OpT.evs (ev' := evL [(23, pt va1 (s3.toNat * 1))]) (opT_load_el (S := rSlice 3 rInt) (xs := p1b) (a := x6) (i := s3) (k := 1) (off := 0) (f := fun (x : List Int) => x) ra1 e8 Fld.self ti34 rfl rfl rfl rfl rfl) rfl [.tmp 23] rfl ⟨(hf 6 (mb rfl)), trivial⟩) rfl (fun _ h => lds_sl h) (fun _ => rfl)⟩, Plan.goal_run fun vs hf => ⟨wants_none rfl, OpT.conv (OpT.evs (ev' := evL [(20, (vs 3)), (24, (vs 7))]) (opT_call (args := #[(vs 3), (vs 7)]) (first := #[]) (captured := #[]) en69 rfl rfl rfl (c_w_eqIntS x5 x6 _ e9 (vs 3) (vs 7) (show (rSlice 3 rInt).rd I [(vs 3)] x5 from (hf 3 (mb rfl))) (show (rSlice 3 rInt).rd I [(vs 7)] x6 from (hf 7 (mb rfl))))) rfl [.func 69, .tmp 20, .tmp 24] rfl ⟨rfl, rfl, rfl, trivial⟩) rfl (fun _ h => h) (fun _ => rfl)⟩, Plan.goal_run fun vs hf => ⟨wants_none rfl, OpT.conv (OpT.evs (ev' := evL [(25, .bool r9)]) (opT_not (b := r9) rfl rfl) rfl [.tmp 25] rfl ⟨(hf 8 (mb rfl)), trivial⟩) rfl (fun _ h => Eq.trans h rfl) (fun _ => rfl)⟩, trivial⟩
          intro vs aq29 wq29 hf haq29 hsq29
          clear haq28 hsq28
          replace haq29 := haq29.pick' (L' := [(0, va0), (1, va1), (5, .int .i64 s3), (26, .bool (!r9))]) ⟨rfl, rfl, rfl, (congrArg some (show _ = _ from (hf 9 (Nat.le_of_ble_eq_true rfl)))), trivial⟩
          replace hsq29 : St I w0 wq29 [F] := hsq29
          clear hf vs
          refine nrm ?_
          rcases two (r9) with hb7 | hb7
          · replace hm := ifFe hb7 hm
            refine cnd_true (b := !r9) haq29 rfl rfl (notT hb7) ?_
            refine wp_seq ?_
            refine wp_region_lit ?_
            refine seq_op0 haq29 hsq29 (opT_assign (v := .bool false) rfl rfl) rfl rfl ?_
            rintro u aq30 wq30 hf haq30 hsq30
            obtain rfl := Eq.symm hf
            clear haq29 hsq29 aq29 wq29
            refine wpList_nil ?_
            replace haq30 := haq30.pick' (L' := [(4, .bool false)]) ⟨rfl, trivial⟩
            refine nrm ?_
            refine wp_ret ?_
            refine blkR ?_
            refine thenR ?_
            refine thenR ?_
            refine blkR ?_
            refine thenR ?_
            refine thenR ?_
            replace hm := loopRet hm hf1 hc1
            obtain rfl := Option.some.inj hm
            exact ret_1 haq30 rfl (res_tmp haq30 rfl) ⟨_, rfl, rfl, _, Hp.le.rfl, St.sel (hsq30) 1 [0] rfl rfl⟩
          · replace hm := ifTe hb7 hm
            refine cnd_false (b := !r9) haq29 rfl rfl (notF hb7) ?_
            refine wp_skip ?_
            refine nrmB ?_
            refine nrm ?_
            refine wp_region_lit ?_
            refine seq_op0 haq29 hsq29 (opT_move (v := .int .i64 s3) rfl rfl) rfl rfl ?_
            rintro u aq31 wq31 hf haq31 hsq31
            obtain rfl := Eq.symm hf
            clear haq29 hsq29 aq29 wq29
            refine seq_op0 haq31 hsq31 (opT_add (m := s3) (n := 1) rfl rfl rfl) rfl rfl ?_
            rintro u aq32 wq32 hf haq32 hsq32
            obtain rfl := Eq.symm hf
            clear haq31 hsq31 aq31 wq31
            refine seq_op0 haq32 hsq32 (opT_assign (v := .int .i64 (IntKind.i64.wrap (s3 + 1))) rfl rfl) rfl rfl ?_
            rintro u aq33 wq33 hf haq33 hsq33
            obtain rfl := Eq.symm hf
            clear haq32 hsq32 aq32 wq32
            refine wpList_nil ?_
            replace haq33 := haq33.pick' (L' := [(0, va0), (1, va1), (5, .int .i64 (IntKind.i64.wrap (s3 + 1)))]) ⟨rfl, rfl, rfl, trivial⟩
            refine nrm ?_
            exact ⟨_, (Option.some.inj hm).symm, ⟨haq33.pick' ⟨rfl, rfl, rfl, trivial⟩, St.sel hsq33 1 [0] rfl rfl⟩⟩
    · rintro aq34 wq34 ⟨s4, ho1, haq34, hsq34⟩
      replace hm := loopOut ho1 hc1
      clear ho1 hc1 hl1
      refine nrm ?_
      refine wp_seq ?_
      refine wp_region_lit ?_
      refine seq_op0 haq34 hsq34 (opT_assign (v := .bool true) rfl rfl) rfl rfl ?_
      rintro u aq35 wq35 hf haq35 hsq35
      obtain rfl := Eq.symm hf
      clear haq34 hsq34 aq34 wq34
      refine wpList_nil ?_
      replace haq35 := haq35.pick' (L' := [(4, .bool true)]) ⟨rfl, trivial⟩
      refine nrm ?_
      refine wp_ret ?_
      obtain rfl := Option.some.inj hm
      exact ret_1 haq35 rfl (res_tmp haq35 rfl) ⟨_, rfl, rfl, _, Hp.le.rfl, St.sel (hsq35) 1 [0] rfl rfl⟩
  · replace hm := ifTe hb1 hm
    refine cnd_true (b := (p0a.length : Int) != (p1b.length : Int)) haq6 rfl rfl hb1 ?_
    refine wp_seq ?_
    refine wp_region_lit ?_
    refine seq_op0 haq6 hsq6 (opT_assign (v := .bool false) rfl rfl) rfl rfl ?_
    rintro u aq36 wq36 hf haq36 hsq36
    obtain rfl := Eq.symm hf
    clear haq6 hsq6 aq6 wq6
    refine wpList_nil ?_
    replace haq36 := haq36.pick' (L' := [(4, .bool false)]) ⟨rfl, trivial⟩
    refine nrm ?_
    refine wp_ret ?_
    refine thenR ?_
    obtain rfl := Option.some.inj hm
    exact ret_1 haq36 rfl (res_tmp haq36 rfl) ⟨_, rfl, rfl, _, Hp.le.rfl, St.sel (hsq36) 1 [0] rfl rfl⟩
set_option maxHeartbeats 8000000 in
theorem c_w_heldIntSS (p0a : List (List Int)) (p1k : Int) (r : Int) (hm : m_w_heldIntSS p0a p1k = some r) {I : Hp} {w0 : World} (va0 : Value) (ra0 : (rSlice 34 (rSlice 3 rInt)).rd I [va0] p0a) : Con Try.prog 58 #[va0, .int .i64 p1k] I w0 [] (fun v => v = .int .i64 r) (fun v => []) := by
  refine con_of_wp (n := 21) [(0, va0), (1, .int .i64 p1k)] Try.func58 rfl rfl (Nat.le_of_ble_eq_true rfl) (args_all ⟨rfl, rfl, trivial⟩) (fun F w a ha hs => ?_) (fun v => trivial)
  unfold m_w_heldIntSS at hm
  refine wp_seq ?_
  refine wp_region_lit ?_
  refine seq_op0 ha hs (opT_assign (v := .int .i64 0) rfl rfl) rfl rfl ?_
  rintro u aq1 wq1 hf haq1 hsq1
  obtain rfl := Eq.symm hf
  clear ha hs a w
  refine wpList_nil ?_
  replace haq1 := haq1.pick' (L' := [(0, va0), (1, .int .i64 p1k)]) ⟨rfl, rfl, trivial⟩
  refine nrm ?_
  refine wp_seq ?_
  refine wp_seq ?_
  refine wp_region_lit ?_
  refine seq_op0 haq1 hsq1 (opT_assign (v := .int .i64 0) rfl rfl) rfl rfl ?_
  rintro u aq2 wq2 hf haq2 hsq2
  obtain rfl := Eq.symm hf
  clear haq1 hsq1 aq1 wq1
  refine wpList_nil ?_
  replace haq2 := haq2.pick' (L' := [(0, va0), (1, .int .i64 p1k), (5, .int .i64 0)]) ⟨rfl, rfl, rfl, trivial⟩
  refine nrm ?_
  obtain ⟨o1, hl1, hc1⟩ := bindL_some hm
  refine wp_cut (fun a w => ∃ s4 : Int × Int, o1 = .brk s4 ∧ Agr 21 a [(1, .int .i64 s4.1)] ∧ St I w0 w [F]) ?_ ?_
  · refine wp_block (wp_loopM (R := Int) (S := Int × Int) (fun s3 a w => Agr 21 a [(0, va0), (1, .int .i64 s3.1), (5, .int .i64 s3.2)] ∧ St I w0 w [F]) hl1 ?_ ?_)
    · exact ⟨haq2.pick' ⟨rfl, rfl, rfl, trivial⟩, St.sel hsq2 1 [0] rfl rfl⟩
    · rintro s3 o2 hm hf1 aq37 wq37 ⟨haq37, hsq37⟩
      unfold m_w_heldIntSS_l0 at hm
      refine wp_seq ?_
      refine wp_seq ?_
      refine wp_region_lit ?_
      refine seq_op0 haq37 hsq37 (opT_move (v := .int .i64 s3.2) rfl rfl) rfl rfl ?_
      rintro u aq38 wq38 hf haq38 hsq38
      obtain rfl := Eq.symm hf
      clear haq37 hsq37 aq37 wq37
      refine seq_op0 haq38 hsq38 (opT_move (v := va0) rfl rfl) rfl rfl ?_
      rintro u aq39 wq39 hf haq39 hsq39
      obtain rfl := Eq.symm hf
      clear haq38 hsq38 aq38 wq38
      refine seq_op0 haq39 hsq39 (opT_len_hd (v := va0) (n := p0a.length) (Hd.of_rd ra0) Try.underlying23 rfl rfl) rfl rfl ?_
      rintro u aq40 wq40 hf haq40 hsq40
      obtain rfl := Eq.symm hf
      clear haq39 hsq39 aq39 wq39
      refine seq_op0 haq40 hsq40 (opT_cmp (k := .i64) (m := s3.2) (n := (p0a.length : Int)) (c := decide (s3.2 < (p0a.length : Int))) rfl rfl rfl rfl rfl) rfl rfl ?_
      rintro u aq41 wq41 hf haq41 hsq41
      obtain rfl := Eq.symm hf
      clear haq40 hsq40 aq40 wq40
      refine wpList_nil ?_
      replace haq41 := haq41.pick' (L' := [(0, va0), (1, .int .i64 s3.1), (5, .int .i64 s3.2), (9, .bool (decide (s3.2 < (p0a.length : Int))))]) ⟨rfl, rfl, rfl, rfl, trivial⟩
      refine nrm ?_
      rcases two (decide (s3.2 < (p0a.length : Int))) with hb5 | hb5
      · replace hm := ifFe hb5 hm
        refine cnd_false (b := decide (s3.2 < (p0a.length : Int))) haq41 rfl rfl hb5 ?_
        refine wp_exit ?_
        refine thenX ?_
        refine thenX ?_
        refine ex_in ?_
        refine nrm ?_
        exact ⟨_, loopBrk hm hf1, ⟨haq41.pick' ⟨rfl, trivial⟩, St.sel hsq41 1 [0] rfl rfl⟩⟩
      · replace hm := ifTe hb5 hm
        refine cnd_true (b := decide (s3.2 < (p0a.length : Int))) haq41 rfl rfl hb5 ?_
        refine wp_skip ?_
        refine nrm ?_
        refine wp_seq ?_
        refine wp_block ?_
        refine wp_seq ?_
        refine wp_region_lit ?_
        refine seq_op0 haq41 hsq41 (opT_move (v := va0) rfl rfl) rfl rfl ?_
        rintro u aq42 wq42 hf haq42 hsq42
        obtain rfl := Eq.symm hf
        clear haq41 hsq41 aq41 wq41
        refine seq_op0 haq42 hsq42 (opT_move (v := .int .i64 s3.2) rfl rfl) rfl rfl ?_
        rintro u aq43 wq43 hf haq43 hsq43
        obtain rfl := Eq.symm hf
        clear haq42 hsq42 aq42 wq42
        obtain ⟨x3, e5, hm⟩ := bind_some hm
        refine seq_op0 haq43 hsq43 (opT_index_hd (xs := p0a) (i := s3.2) (n := 1) (Hd.of_rd ra0) Try.underlying23 ti34 rfl rfl rfl (getI_in e5)) rfl rfl ?_
        rintro u aq44 wq44 hf haq44 hsq44
        obtain rfl := Eq.symm hf
        clear haq43 hsq43 aq43 wq43
        refine seq_op0 haq44 hsq44 (opT_load_el (S := rSlice 3 rInt) (xs := p0a) (a := x3) (i := s3.2) (k := 1) (off := 0) (f := fun (x : List Int) => x) ra0 e5 Fld.self ti34 rfl rfl rfl rfl rfl) rfl rfl ?_
        rintro v3 aq45 wq45 hf haq45 hsq45
        have r5 := lds_sl hf
        clear hf
        clear haq44 hsq44 aq44 wq44
        refine seq_op0 haq45 hsq45 (opT_move (v := .int .i64 s3.1) rfl rfl) rfl rfl ?_
        rintro u aq46 wq46 hf haq46 hsq46
        obtain rfl := Eq.symm hf
        clear haq45 hsq45 aq45 wq45
        obtain ⟨r6, e6, hm⟩ := bind_some hm
        refine seq_op0 haq46 hsq46 (opT_call (args := #[v3, .int .i64 s3.1]) (first := #[]) (captured := #[]) en103 rfl rfl rfl (c_w_heldIntS x3 s3.1 _ e6 v3 r5)) rfl rfl ?_
        rintro u aq47 wq47 hf haq47 hsq47
        obtain rfl := Eq.symm hf
        clear haq46 hsq46 aq46 wq46
        refine seq_op0 haq47 hsq47 (opT_assign (v := .int .i64 r6) rfl rfl) rfl rfl ?_
        rintro u aq48 wq48 hf haq48 hsq48
        obtain rfl := Eq.symm hf
        clear haq47 hsq47 aq47 wq47
        refine wpList_nil ?_
        replace haq48 := haq48.pick' (L' := [(0, va0), (1, .int .i64 r6), (5, .int .i64 s3.2)]) ⟨rfl, rfl, rfl, trivial⟩
        refine nrm ?_
        refine wp_seq ?_
        refine wp_region_lit ?_
        refine seq_op0 haq48 hsq48 (opT_move (v := .int .i64 r6) rfl rfl) rfl rfl ?_
        rintro u aq49 wq49 hf haq49 hsq49
        obtain rfl := Eq.symm hf
        clear haq48 hsq48 aq48 wq48
        refine seq_op0 haq49 hsq49 (opT_cmp (k := .i64) (m := r6) (n := 0) (c := decide (r6 < 0)) rfl rfl rfl rfl rfl) rfl rfl ?_
        rintro u aq50 wq50 hf haq50 hsq50
        obtain rfl := Eq.symm hf
        clear haq49 hsq49 aq49 wq49
        refine wpList_nil ?_
        replace haq50 := haq50.pick' (L' := [(0, va0), (1, .int .i64 r6), (5, .int .i64 s3.2), (19, .bool (decide (r6 < 0)))]) ⟨rfl, rfl, rfl, rfl, trivial⟩
        refine nrm ?_
        rcases two (decide (r6 < 0)) with hb6 | hb6
        · replace hm := ifFe hb6 hm
          refine cnd_false (b := decide (r6 < 0)) haq50 rfl rfl hb6 ?_
          refine wp_skip ?_
          refine nrmB ?_
          refine nrm ?_
          refine wp_region_lit ?_
          refine seq_op0 haq50 hsq50 (opT_move (v := .int .i64 s3.2) rfl rfl) rfl rfl ?_
          rintro u aq51 wq51 hf haq51 hsq51
          obtain rfl := Eq.symm hf
          clear haq50 hsq50 aq50 wq50
          refine seq_op0 haq51 hsq51 (opT_add (m := s3.2) (n := 1) rfl rfl rfl) rfl rfl ?_
          rintro u aq52 wq52 hf haq52 hsq52
          obtain rfl := Eq.symm hf
          clear haq51 hsq51 aq51 wq51
          refine seq_op0 haq52 hsq52 (opT_assign (v := .int .i64 (IntKind.i64.wrap (s3.2 + 1))) rfl rfl) rfl rfl ?_
          rintro u aq53 wq53 hf haq53 hsq53
          obtain rfl := Eq.symm hf
          clear haq52 hsq52 aq52 wq52
          refine wpList_nil ?_
          replace haq53 := haq53.pick' (L' := [(0, va0), (1, .int .i64 r6), (5, .int .i64 (IntKind.i64.wrap (s3.2 + 1)))]) ⟨rfl, rfl, rfl, trivial⟩
          refine nrm ?_
          exact ⟨_, (Option.some.inj hm).symm, ⟨haq53.pick' ⟨rfl, rfl, rfl, trivial⟩, St.sel hsq53 1 [0] rfl rfl⟩⟩
        · replace hm := ifTe hb6 hm
          refine cnd_true (b := decide (r6 < 0)) haq50 rfl rfl hb6 ?_
          refine wp_seq ?_
          refine wp_region_lit ?_
          refine seq_op0 haq50 hsq50 (opT_assign (v := .int .i64 (-1)) rfl rfl) rfl rfl ?_
          rintro u aq54 wq54 hf haq54 hsq54
          obtain rfl := Eq.symm hf
          clear haq50 hsq50 aq50 wq50
          refine wpList_nil ?_
          replace haq54 := haq54.pick' (L' := [(4, .int .i64 (-1))]) ⟨rfl, trivial⟩
          refine nrm ?_
          refine wp_ret ?_
          refine blkR ?_
          refine thenR ?_
          refine thenR ?_
          refine blkR ?_
          refine thenR ?_
          refine thenR ?_
          replace hm := loopRet hm hf1 hc1
          obtain rfl := Option.some.inj hm
          exact ret_1 haq54 rfl (res_tmp haq54 rfl) ⟨_, rfl, rfl, _, Hp.le.rfl, St.sel (hsq54) 1 [0] rfl rfl⟩
  · rintro aq55 wq55 ⟨s4, ho1, haq55, hsq55⟩
    replace hm := loopOut ho1 hc1
    clear ho1 hc1 hl1
    refine nrm ?_
    refine wp_seq ?_
    refine wp_region_lit ?_
    refine seq_op0 haq55 hsq55 (opT_move (v := .int .i64 s4.1) rfl rfl) rfl rfl ?_
    rintro u aq56 wq56 hf haq56 hsq56
    obtain rfl := Eq.symm hf
    clear haq55 hsq55 aq55 wq55
    refine seq_op0 haq56 hsq56 (opT_assign (v := .int .i64 s4.1) rfl rfl) rfl rfl ?_
    rintro u aq57 wq57 hf haq57 hsq57
    obtain rfl := Eq.symm hf
    clear haq56 hsq56 aq56 wq56
    refine wpList_nil ?_
    replace haq57 := haq57.pick' (L' := [(4, .int .i64 s4.1)]) ⟨rfl, trivial⟩
    refine nrm ?_
    refine wp_ret ?_
    obtain rfl := Option.some.inj hm
    exact ret_1 haq57 rfl (res_tmp haq57 rfl) ⟨_, rfl, rfl, _, Hp.le.rfl, St.sel (hsq57) 1 [0] rfl rfl⟩
end Go.Proofs.Ytcihbmdppgpmjaa.D
