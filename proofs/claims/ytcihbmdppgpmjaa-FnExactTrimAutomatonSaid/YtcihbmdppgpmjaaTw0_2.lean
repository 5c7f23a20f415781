/- Printed by dec.py: models of functions and the walks that show them. -/
import Derived.Test.YtcihbmdppgpmjaaTm
set_option linter.unusedVariables false
set_option linter.unusedSimpArgs false
set_option linter.unnecessarySimpa false
set_option maxRecDepth 100000
namespace Go.Proofs.Ytcihbmdppgpmjaa.D
open Go.RowKit
set_option maxHeartbeats 8000000 in
theorem c_g_math_bits_Mul64 (p0x : Int) (p1y : Int) (r : Int × Int) (hm : m_g_math_bits_Mul64 p0x p1y = some r) {I : Hp} {w0 : World} : Con Try.prog 188 #[.int .u64 p0x, .int .u64 p1y] I w0 [] (fun v => v = .tuple #[.int .u64 r.1, .int .u64 r.2]) (fun v => []) := by
  refine con_of_wp (n := 51) [(0, .int .u64 p0x), (1, .int .u64 p1y)] Try.func188 rfl rfl (Nat.le_of_ble_eq_true rfl) (args_all ⟨rfl, rfl, trivial⟩) (fun F w a ha hs => ?_) (fun v => trivial)
  unfold m_g_math_bits_Mul64 at hm
  refine wp_seq ?_
  refine wp_region_lit ?_
  refine seq_op0 ha hs (opT_assign (v := .int .u64 0) rfl rfl) rfl rfl ?_
  rintro u aq1 wq1 hf haq1 hsq1
  obtain rfl := Eq.symm hf
  clear ha hs a w
  refine seq_op0 haq1 hsq1 (opT_assign (v := .int .u64 0) rfl rfl) rfl rfl ?_
  rintro u aq2 wq2 hf haq2 hsq2
  obtain rfl := Eq.symm hf
  clear haq1 hsq1 aq1 wq1
  refine wpList_nil ?_
  replace haq2 := haq2.pick' (L' := [(0, .int .u64 p0x), (1, .int .u64 p1y)]) ⟨rfl, rfl, trivial⟩
  refine nrm ?_
  refine wp_seq ?_
  refine wp_region_lit ?_
  refine seq_op0 haq2 hsq2 (opT_move (v := .int .u64 p0x) rfl rfl) rfl rfl ?_
  rintro u aq3 wq3 hf haq3 hsq3
  obtain rfl := Eq.symm hf
  clear haq2 hsq2 aq2 wq2
  refine seq_op0 haq3 hsq3 (opU_and (m := p0x) (n := 4294967295) rfl rfl rfl) rfl rfl ?_
  rintro u aq4 wq4 hf haq4 hsq4
  obtain rfl := Eq.symm hf
  clear haq3 hsq3 aq3 wq3
  refine seq_op0 haq4 hsq4 (opT_assign (v := .int .u64 (andU p0x 4294967295)) rfl rfl) rfl rfl ?_
  rintro u aq5 wq5 hf haq5 hsq5
  obtain rfl := Eq.symm hf
  clear haq4 hsq4 aq4 wq4
  refine wpList_nil ?_
  replace haq5 := haq5.pick' (L' := [(0, .int .u64 p0x), (1, .int .u64 p1y), (6, .int .u64 (andU p0x 4294967295))]) ⟨rfl, rfl, rfl, trivial⟩
  refine nrm ?_
  refine wp_seq ?_
  refine wp_region_lit ?_
  refine seq_op0 haq5 hsq5 (opT_move (v := .int .u64 p0x) rfl rfl) rfl rfl ?_
  rintro u aq6 wq6 hf haq6 hsq6
  obtain rfl := Eq.symm hf
  clear haq5 hsq5 aq5 wq5
  refine seq_op0 haq6 hsq6 (opU_shr (m := p0x) (n := 32) rfl rfl rfl (by decide)) rfl rfl ?_
  rintro u aq7 wq7 hf haq7 hsq7
  obtain rfl := Eq.symm hf
  clear haq6 hsq6 aq6 wq6
  refine seq_op0 haq7 hsq7 (opT_assign (v := .int .u64 (shrI p0x 32)) rfl rfl) rfl rfl ?_
  rintro u aq8 wq8 hf haq8 hsq8
  obtain rfl := Eq.symm hf
  clear haq7 hsq7 aq7 wq7
  refine wpList_nil ?_
  replace haq8 := haq8.pick' (L' := [(0, .int .u64 p0x), (1, .int .u64 p1y), (6, .int .u64 (andU p0x 4294967295)), (7, .int .u64 (shrI p0x 32))]) ⟨rfl, rfl, rfl, rfl, trivial⟩
  refine nrm ?_
  refine wp_seq ?_
  refine wp_region_lit ?_
  refine seq_op0 haq8 hsq8 (opT_move (v := .int .u64 p1y) rfl rfl) rfl rfl ?_
  rintro u aq9 wq9 hf haq9 hsq9
  obtain rfl := Eq.symm hf
  clear haq8 hsq8 aq8 wq8
  refine seq_op0 haq9 hsq9 (opU_and (m := p1y) (n := 4294967295) rfl rfl rfl) rfl rfl ?_
  rintro u aq10 wq10 hf haq10 hsq10
  obtain rfl := Eq.symm hf
  clear haq9 hsq9 aq9 wq9
  refine seq_op0 haq10 hsq10 (opT_assign (v := .int .u64 (andU p1y 4294967295)) rfl rfl) rfl rfl ?_
  rintro u aq11 wq11 hf haq11 hsq11
  obtain rfl := Eq.symm hf
  clear haq10 hsq10 aq10 wq10
  refine wpList_nil ?_
  replace haq11 := haq11.pick' (L' := [(0, .int .u64 p0x), (1, .int .u64 p1y), (6, .int .u64 (andU p0x 4294967295)), (7, .int .u64 (shrI p0x 32)), (8, .int .u64 (andU p1y 4294967295))]) ⟨rfl, rfl, rfl, rfl, rfl, trivial⟩
  refine nrm ?_
  refine wp_seq ?_
  refine wp_region_lit ?_
  refine seq_op0 haq11 hsq11 (opT_move (v := .int .u64 p1y) rfl rfl) rfl rfl ?_
  rintro u aq12 wq12 hf haq12 hsq12
  obtain rfl := Eq.symm hf
  clear haq11 hsq11 aq11 wq11
  refine seq_op0 haq12 hsq12 (opU_shr (m := p1y) (n := 32) rfl rfl rfl (by decide)) rfl rfl ?_
  rintro u aq13 wq13 hf haq13 hsq13
  obtain rfl := Eq.symm hf
  clear haq12 hsq12 aq12 wq12
  refine seq_op0 haq13 hsq13 (opT_assign (v := .int .u64 (shrI p1y 32)) rfl rfl) rfl rfl ?_
  rintro u aq14 wq14 hf haq14 hsq14
  obtain rfl := Eq.symm hf
  clear haq13 hsq13 aq13 wq13
  refine wpList_nil ?_
  replace haq14 := haq14.pick' (L' := [(0, .int .u64 p0x), (1, .int .u64 p1y), (6, .int .u64 (andU p0x 4294967295)), (7, .int .u64 (shrI p0x 32)), (8, .int .u64 (andU p1y 4294967295)), (9, .int .u64 (shrI p1y 32))]) ⟨rfl, rfl, rfl, rfl, rfl, rfl, trivial⟩
  refine nrm ?_
  refine wp_seq ?_
  refine wp_region_lit ?_
  refine seq_op0 haq14 hsq14 (opT_move (v := .int .u64 (andU p0x 4294967295)) rfl rfl) rfl rfl ?_
  rintro u aq15 wq15 hf haq15 hsq15
  obtain rfl := Eq.symm hf
  clear haq14 hsq14 aq14 wq14
  refine seq_op0 haq15 hsq15 (opT_move (v := .int .u64 (andU p1y 4294967295)) rfl rfl) rfl rfl ?_
  rintro u aq16 wq16 hf haq16 hsq16
  obtain rfl := Eq.symm hf
  clear haq15 hsq15 aq15 wq15
  refine seq_op0 haq16 hsq16 (opU_mul (m := andU p0x 4294967295) (n := andU p1y 4294967295) rfl rfl rfl) rfl rfl ?_
  rintro u aq17 wq17 hf haq17 hsq17
  obtain rfl := Eq.symm hf
  clear haq16 hsq16 aq16 wq16
  refine seq_op0 haq17 hsq17 (opT_assign (v := .int .u64 (IntKind.u64.wrap ((andU p0x 4294967295) * (andU p1y 4294967295)))) rfl rfl) rfl rfl ?_
  rintro u aq18 wq18 hf haq18 hsq18
  obtain rfl := Eq.symm hf
  clear haq17 hsq17 aq17 wq17
  refine wpList_nil ?_
  replace haq18 := haq18.pick' (L' := [(0, .int .u64 p0x), (1, .int .u64 p1y), (6, .int .u64 (andU p0x 4294967295)), (7, .int .u64 (shrI p0x 32)), (8, .int .u64 (andU p1y 4294967295)), (9, .int .u64 (shrI p1y 32)), (10, .int .u64 (IntKind.u64.wrap ((andU p0x 4294967295) * (andU p1y 4294967295))))]) ⟨rfl, rfl, rfl, rfl, rfl, rfl, rfl, trivial⟩
  refine nrm ?_
  refine wp_seq ?_
  refine wp_region_lit ?_
  refine seq_op0 haq18 hsq18 (opT_move (v := .int .u64 (shrI p0x 32)) rfl rfl) rfl rfl ?_
  rintro u aq19 wq19 hf haq19 hsq19
  obtain rfl := Eq.symm hf
  clear haq18 hsq18 aq18 wq18
  refine seq_op0 haq19 hsq19 (opT_move (v := .int .u64 (andU p1y 4294967295)) rfl rfl) rfl rfl ?_
  rintro u aq20 wq20 hf haq20 hsq20
  obtain rfl := Eq.symm hf
  clear haq19 hsq19 aq19 wq19
  refine seq_op0 haq20 hsq20 (opU_mul (m := shrI p0x 32) (n := andU p1y 4294967295) rfl rfl rfl) rfl rfl ?_
  rintro u aq21 wq21 hf haq21 hsq21
  obtain rfl := Eq.symm hf
  clear haq20 hsq20 aq20 wq20
  refine seq_op0 haq21 hsq21 (opT_move (v := .int .u64 (IntKind.u64.wrap ((andU p0x 4294967295) * (andU p1y 4294967295)))) rfl rfl) rfl rfl ?_
  rintro u aq22 wq22 hf haq22 hsq22
  obtain rfl := Eq.symm hf
  clear haq21 hsq21 aq21 wq21
  refine seq_op0 haq22 hsq22 (opU_shr (m := IntKind.u64.wrap ((andU p0x 4294967295) * (andU p1y 4294967295))) (n := 32) rfl rfl rfl (by decide)) rfl rfl ?_
  rintro u aq23 wq23 hf haq23 hsq23
  obtain rfl := Eq.symm hf
  clear haq22 hsq22 aq22 wq22
  refine seq_op0 haq23 hsq23 (opU_add (m := IntKind.u64.wrap ((shrI p0x 32) * (andU p1y 4294967295))) (n := shrI (IntKind.u64.wrap ((andU p0x 4294967295) * (andU p1y 4294967295))) 32) rfl rfl rfl) rfl rfl ?_
  rintro u aq24 wq24 hf haq24 hsq24
  obtain rfl := Eq.symm hf
  clear haq23 hsq23 aq23 wq23
  refine seq_op0 haq24 hsq24 (opT_assign (v := .int .u64 (IntKind.u64.wrap ((IntKind.u64.wrap ((shrI p0x 32) * (andU p1y 4294967295))) + (shrI (IntKind.u64.wrap ((andU p0x 4294967295) * (andU p1y 4294967295))) 32)))) rfl rfl) rfl rfl ?_
  rintro u aq25 wq25 hf haq25 hsq25
  obtain rfl := Eq.symm hf
  clear haq24 hsq24 aq24 wq24
  refine wpList_nil ?_
  replace haq25 := haq25.pick' (L' := [(0, .int .u64 p0x), (1, .int .u64 p1y), (6, .int .u64 (andU p0x 4294967295)), (7, .int .u64 (shrI p0x 32)), (9, .int .u64 (shrI p1y 32)), (11, .int .u64 (IntKind.u64.wrap ((IntKind.u64.wrap ((shrI p0x 32) * (andU p1y 4294967295))) + (shrI (IntKind.u64.wrap ((andU p0x 4294967295) * (andU p1y 4294967295))) 32))))]) ⟨rfl, rfl, rfl, rfl, rfl, rfl, trivial⟩
  refine nrm ?_
  refine wp_seq ?_
  refine wp_region_lit ?_
  refine seq_op0 haq25 hsq25 (opT_move (v := .int .u64 (IntKind.u64.wrap ((IntKind.u64.wrap ((shrI p0x 32) * (andU p1y 4294967295))) + (shrI (IntKind.u64.wrap ((andU p0x 4294967295) * (andU p1y 4294967295))) 32)))) rfl rfl) rfl rfl ?_
  rintro u aq26 wq26 hf haq26 hsq26
  obtain rfl := Eq.symm hf
  clear haq25 hsq25 aq25 wq25
  refine seq_op0 haq26 hsq26 (opU_and (m := IntKind.u64.wrap ((IntKind.u64.wrap ((shrI p0x 32) * (andU p1y 4294967295))) + (shrI (IntKind.u64.wrap ((andU p0x 4294967295) * (andU p1y 4294967295))) 32))) (n := 4294967295) rfl rfl rfl) rfl rfl ?_
  rintro u aq27 wq27 hf haq27 hsq27
  obtain rfl := Eq.symm hf
  clear haq26 hsq26 aq26 wq26
  refine seq_op0 haq27 hsq27 (opT_assign (v := .int .u64 (andU (IntKind.u64.wrap ((IntKind.u64.wrap ((shrI p0x 32) * (andU p1y 4294967295))) + (shrI (IntKind.u64.wrap ((andU p0x 4294967295) * (andU p1y 4294967295))) 32))) 4294967295)) rfl rfl) rfl rfl ?_
  rintro u aq28 wq28 hf haq28 hsq28
  obtain rfl := Eq.symm hf
  clear haq27 hsq27 aq27 wq27
  refine wpList_nil ?_
  replace haq28 := haq28.pick' (L' := [(0, .int .u64 p0x), (1, .int .u64 p1y), (6, .int .u64 (andU p0x 4294967295)), (7, .int .u64 (shrI p0x 32)), (9, .int .u64 (shrI p1y 32)), (11, .int .u64 (IntKind.u64.wrap ((IntKind.u64.wrap ((shrI p0x 32) * (andU p1y 4294967295))) + (shrI (IntKind.u64.wrap ((andU p0x 4294967295) * (andU p1y 4294967295))) 32)))), (12, .int .u64 (andU (IntKind.u64.wrap ((IntKind.u64.wrap ((shrI p0x 32) * (andU p1y 4294967295))) + (shrI (IntKind.u64.wrap ((andU p0x 4294967295) * (andU p1y 4294967295))) 32))) 4294967295))]) ⟨rfl, rfl, rfl, rfl, rfl, rfl, rfl, trivial⟩
  refine nrm ?_
  refine wp_seq ?_
  refine wp_region_lit ?_
  refine seq_op0 haq28 hsq28 (opT_move (v := .int .u64 (IntKind.u64.wrap ((IntKind.u64.wrap ((shrI p0x 32) * (andU p1y 4294967295))) + (shrI (IntKind.u64.wrap ((andU p0x 4294967295) * (andU p1y 4294967295))) 32)))) rfl rfl) rfl rfl ?_
  rintro u aq29 wq29 hf haq29 hsq29
  obtain rfl := Eq.symm hf
  clear haq28 hsq28 aq28 wq28
  refine seq_op0 haq29 hsq29 (opU_shr (m := IntKind.u64.wrap ((IntKind.u64.wrap ((shrI p0x 32) * (andU p1y 4294967295))) + (shrI (IntKind.u64.wrap ((andU p0x 4294967295) * (andU p1y 4294967295))) 32))) (n := 32) rfl rfl rfl (by decide)) rfl rfl ?_
  rintro u aq30 wq30 hf haq30 hsq30
  obtain rfl := Eq.symm hf
  clear haq29 hsq29 aq29 wq29
  refine seq_op0 haq30 hsq30 (opT_assign (v := .int .u64 (shrI (IntKind.u64.wrap ((IntKind.u64.wrap ((shrI p0x 32) * (andU p1y 4294967295))) + (shrI (IntKind.u64.wrap ((andU p0x 4294967295) * (andU p1y 4294967295))) 32))) 32)) rfl rfl) rfl rfl ?_
  rintro u aq31 wq31 hf haq31 hsq31
  obtain rfl := Eq.symm hf
  clear haq30 hsq30 aq30 wq30
  refine wpList_nil ?_
  replace haq31 := haq31.pick' (L' := [(0, .int .u64 p0x), (1, .int .u64 p1y), (6, .int .u64 (andU p0x 4294967295)), (7, .int .u64 (shrI p0x 32)), (9, .int .u64 (shrI p1y 32)), (12, .int .u64 (andU (IntKind.u64.wrap ((IntKind.u64.wrap ((shrI p0x 32) * (andU p1y 4294967295))) + (shrI (IntKind.u64.wrap ((andU p0x 4294967295) * (andU p1y 4294967295))) 32))) 4294967295)), (13, .int .u64 (shrI (IntKind.u64.wrap ((IntKind.u64.wrap ((shrI p0x 32) * (andU p1y 4294967295))) + (shrI (IntKind.u64.wrap ((andU p0x 4294967295) * (andU p1y 4294967295))) 32))) 32))]) ⟨rfl, rfl, rfl, rfl, rfl, rfl, rfl, trivial⟩
  refine nrm ?_
  refine wp_seq ?_
  refine wp_region_lit ?_
  refine seq_op0 haq31 hsq31 (opT_move (v := .int .u64 (andU (IntKind.u64.wrap ((IntKind.u64.wrap ((shrI p0x 32) * (andU p1y 4294967295))) + (shrI (IntKind.u64.wrap ((andU p0x 4294967295) * (andU p1y 4294967295))) 32))) 4294967295)) rfl rfl) rfl rfl ?_
  rintro u aq32 wq32 hf haq32 hsq32
  obtain rfl := Eq.symm hf
  clear haq31 hsq31 aq31 wq31
  refine seq_op0 haq32 hsq32 (opT_move (v := .int .u64 (andU p0x 4294967295)) rfl rfl) rfl rfl ?_
  rintro u aq33 wq33 hf haq33 hsq33
  obtain rfl := Eq.symm hf
  clear haq32 hsq32 aq32 wq32
  refine seq_op0 haq33 hsq33 (opT_move (v := .int .u64 (shrI p1y 32)) rfl rfl) rfl rfl ?_
  rintro u aq34 wq34 hf haq34 hsq34
  obtain rfl := Eq.symm hf
  clear haq33 hsq33 aq33 wq33
  refine seq_op0 haq34 hsq34 (opU_mul (m := andU p0x 4294967295) (n := shrI p1y 32) rfl rfl rfl) rfl rfl ?_
  rintro u aq35 wq35 hf haq35 hsq35
  obtain rfl := Eq.symm hf
  clear haq34 hsq34 aq34 wq34
  refine seq_op0 haq35 hsq35 (opU_add (m := andU (IntKind.u64.wrap ((IntKind.u64.wrap ((shrI p0x 32) * (andU p1y 4294967295))) + (shrI (IntKind.u64.wrap ((andU p0x 4294967295) * (andU p1y 4294967295))) 32))) 4294967295) (n := IntKind.u64.wrap ((andU p0x 4294967295) * (shrI p1y 32))) rfl rfl rfl) rfl rfl ?_
  rintro u aq36 wq36 hf haq36 hsq36
  obtain rfl := Eq.symm hf
  clear haq35 hsq35 aq35 wq35
  refine seq_op0 haq36 hsq36 (opT_assign (v := .int .u64 (IntKind.u64.wrap ((andU (IntKind.u64.wrap ((IntKind.u64.wrap ((shrI p0x 32) * (andU p1y 4294967295))) + (shrI (IntKind.u64.wrap ((andU p0x 4294967295) * (andU p1y 4294967295))) 32))) 4294967295) + (IntKind.u64.wrap ((andU p0x 4294967295) * (shrI p1y 32)))))) rfl rfl) rfl rfl ?_
  rintro u aq37 wq37 hf haq37 hsq37
  obtain rfl := Eq.symm hf
  clear haq36 hsq36 aq36 wq36
  refine wpList_nil ?_
  replace haq37 := haq37.pick' (L' := [(0, .int .u64 p0x), (1, .int .u64 p1y), (7, .int .u64 (shrI p0x 32)), (9, .int .u64 (shrI p1y 32)), (12, .int .u64 (IntKind.u64.wrap ((andU (IntKind.u64.wrap ((IntKind.u64.wrap ((shrI p0x 32) * (andU p1y 4294967295))) + (shrI (IntKind.u64.wrap ((andU p0x 4294967295) * (andU p1y 4294967295))) 32))) 4294967295) + (IntKind.u64.wrap ((andU p0x 4294967295) * (shrI p1y 32)))))), (13, .int .u64 (shrI (IntKind.u64.wrap ((IntKind.u64.wrap ((shrI p0x 32) * (andU p1y 4294967295))) + (shrI (IntKind.u64.wrap ((andU p0x 4294967295) * (andU p1y 4294967295))) 32))) 32))]) ⟨rfl, rfl, rfl, rfl, rfl, rfl, trivial⟩
  refine nrm ?_
  refine wp_seq ?_
  refine wp_region_lit ?_
  refine seq_op0 haq37 hsq37 (opT_move (v := .int .u64 (shrI p0x 32)) rfl rfl) rfl rfl ?_
  rintro u aq38 wq38 hf haq38 hsq38
  obtain rfl := Eq.symm hf
  clear haq37 hsq37 aq37 wq37
  refine seq_op0 haq38 hsq38 (opT_move (v := .int .u64 (shrI p1y 32)) rfl rfl) rfl rfl ?_
  rintro u aq39 wq39 hf haq39 hsq39
  obtain rfl := Eq.symm hf
  clear haq38 hsq38 aq38 wq38
  refine seq_op0 haq39 hsq39 (opU_mul (m := shrI p0x 32) (n := shrI p1y 32) rfl rfl rfl) rfl rfl ?_
  rintro u aq40 wq40 hf haq40 hsq40
  obtain rfl := Eq.symm hf
  clear haq39 hsq39 aq39 wq39
  refine seq_op0 haq40 hsq40 (opT_move (v := .int .u64 (shrI (IntKind.u64.wrap ((IntKind.u64.wrap ((shrI p0x 32) * (andU p1y 4294967295))) + (shrI (IntKind.u64.wrap ((andU p0x 4294967295) * (andU p1y 4294967295))) 32))) 32)) rfl rfl) rfl rfl ?_
  rintro u aq41 wq41 hf haq41 hsq41
  obtain rfl := Eq.symm hf
  clear haq40 hsq40 aq40 wq40
  refine seq_op0 haq41 hsq41 (opU_add (m := IntKind.u64.wrap ((shrI p0x 32) * (shrI p1y 32))) (n := shrI (IntKind.u64.wrap ((IntKind.u64.wrap ((shrI p0x 32) * (andU p1y 4294967295))) + (shrI (IntKind.u64.wrap ((andU p0x 4294967295) * (andU p1y 4294967295))) 32))) 32) rfl rfl rfl) rfl rfl ?_
  rintro u aq42 wq42 hf haq42 hsq42
  obtain rfl := Eq.symm hf
  clear haq41 hsq41 aq41 wq41
  refine seq_op0 haq42 hsq42 (opT_move (v := .int .u64 (IntKind.u64.wrap ((andU (IntKind.u64.wrap ((IntKind.u64.wrap ((shrI p0x 32) * (andU p1y 4294967295))) + (shrI (IntKind.u64.wrap ((andU p0x 4294967295) * (andU p1y 4294967295))) 32))) 4294967295) + (IntKind.u64.wrap ((andU p0x 4294967295) * (shrI p1y 32)))))) rfl rfl) rfl rfl ?_
  rintro u aq43 wq43 hf haq43 hsq43
  obtain rfl := Eq.symm hf
  clear haq42 hsq42 aq42 wq42
  refine seq_op0 haq43 hsq43 (opU_shr (m := IntKind.u64.wrap ((andU (IntKind.u64.wrap ((IntKind.u64.wrap ((shrI p0x 32) * (andU p1y 4294967295))) + (shrI (IntKind.u64.wrap ((andU p0x 4294967295) * (andU p1y 4294967295))) 32))) 4294967295) + (IntKind.u64.wrap ((andU p0x 4294967295) * (shrI p1y 32))))) (n := 32) rfl rfl rfl (by decide)) rfl rfl ?_
  rintro u aq44 wq44 hf haq44 hsq44
  obtain rfl := Eq.symm hf
  clear haq43 hsq43 aq43 wq43
  refine seq_op0 haq44 hsq44 (opU_add (m := IntKind.u64.wrap ((IntKind.u64.wrap ((shrI p0x 32) * (shrI p1y 32))) + (shrI (IntKind.u64.wrap ((IntKind.u64.wrap ((shrI p0x 32) * (andU p1y 4294967295))) + (shrI (IntKind.u64.wrap ((andU p0x 4294967295) * (andU p1y 4294967295))) 32))) 32))) (n := shrI (IntKind.u64.wrap ((andU (IntKind.u64.wrap ((IntKind.u64.wrap ((shrI p0x 32) * (andU p1y 4294967295))) + (shrI (IntKind.u64.wrap ((andU p0x 4294967295) * (andU p1y 4294967295))) 32))) 4294967295) + (IntKind.u64.wrap ((andU p0x 4294967295) * (shrI p1y 32))))) 32) rfl rfl rfl) rfl rfl ?_
  rintro u aq45 wq45 hf haq45 hsq45
  obtain rfl := Eq.symm hf
  clear haq44 hsq44 aq44 wq44
  refine seq_op0 haq45 hsq45 (opT_assign (v := .int .u64 (IntKind.u64.wrap ((IntKind.u64.wrap ((IntKind.u64.wrap ((shrI p0x 32) * (shrI p1y 32))) + (shrI (IntKind.u64.wrap ((IntKind.u64.wrap ((shrI p0x 32) * (andU p1y 4294967295))) + (shrI (IntKind.u64.wrap ((andU p0x 4294967295) * (andU p1y 4294967295))) 32))) 32))) + (shrI (IntKind.u64.wrap ((andU (IntKind.u64.wrap ((IntKind.u64.wrap ((shrI p0x 32) * (andU p1y 4294967295))) + (shrI (IntKind.u64.wrap ((andU p0x 4294967295) * (andU p1y 4294967295))) 32))) 4294967295) + (IntKind.u64.wrap ((andU p0x 4294967295) * (shrI p1y 32))))) 32)))) rfl rfl) rfl rfl ?_
  rintro u aq46 wq46 hf haq46 hsq46
  obtain rfl := Eq.symm hf
  clear haq45 hsq45 aq45 wq45
  refine wpList_nil ?_
  replace haq46 := haq46.pick' (L' := [(0, .int .u64 p0x), (1, .int .u64 p1y), (4, .int .u64 (IntKind.u64.wrap ((IntKind.u64.wrap ((IntKind.u64.wrap ((shrI p0x 32) * (shrI p1y 32))) + (shrI (IntKind.u64.wrap ((IntKind.u64.wrap ((shrI p0x 32) * (andU p1y 4294967295))) + (shrI (IntKind.u64.wrap ((andU p0x 4294967295) * (andU p1y 4294967295))) 32))) 32))) + (shrI (IntKind.u64.wrap ((andU (IntKind.u64.wrap ((IntKind.u64.wrap ((shrI p0x 32) * (andU p1y 4294967295))) + (shrI (IntKind.u64.wrap ((andU p0x 4294967295) * (andU p1y 4294967295))) 32))) 4294967295) + (IntKind.u64.wrap ((andU p0x 4294967295) * (shrI p1y 32))))) 32))))]) ⟨rfl, rfl, rfl, trivial⟩
  refine nrm ?_
  refine wp_seq ?_
  refine wp_region_lit ?_
  refine seq_op0 haq46 hsq46 (opT_move (v := .int .u64 p0x) rfl rfl) rfl rfl ?_
  rintro u aq47 wq47 hf haq47 hsq47
  obtain rfl := Eq.symm hf
  clear haq46 hsq46 aq46 wq46
  refine seq_op0 haq47 hsq47 (opT_move (v := .int .u64 p1y) rfl rfl) rfl rfl ?_
  rintro u aq48 wq48 hf haq48 hsq48
  obtain rfl := Eq.symm hf
  clear haq47 hsq47 aq47 wq47
  refine seq_op0 haq48 hsq48 (opU_mul (m := p0x) (n := p1y) rfl rfl rfl) rfl rfl ?_
  rintro u aq49 wq49 hf haq49 hsq49
  obtain rfl := Eq.symm hf
  clear haq48 hsq48 aq48 wq48
  refine seq_op0 haq49 hsq49 (opT_assign (v := .int .u64 (IntKind.u64.wrap (p0x * p1y))) rfl rfl) rfl rfl ?_
  rintro u aq50 wq50 hf haq50 hsq50
  obtain rfl := Eq.symm hf
  clear haq49 hsq49 aq49 wq49
  refine wpList_nil ?_
  replace haq50 := haq50.pick' (L' := [(4, .int .u64 (IntKind.u64.wrap ((IntKind.u64.wrap ((IntKind.u64.wrap ((shrI p0x 32) * (shrI p1y 32))) + (shrI (IntKind.u64.wrap ((IntKind.u64.wrap ((shrI p0x 32) * (andU p1y 4294967295))) + (shrI (IntKind.u64.wrap ((andU p0x 4294967295) * (andU p1y 4294967295))) 32))) 32))) + (shrI (IntKind.u64.wrap ((andU (IntKind.u64.wrap ((IntKind.u64.wrap ((shrI p0x 32) * (andU p1y 4294967295))) + (shrI (IntKind.u64.wrap ((andU p0x 4294967295) * (andU p1y 4294967295))) 32))) 4294967295) + (IntKind.u64.wrap ((andU p0x 4294967295) * (shrI p1y 32))))) 32)))), (5, .int .u64 (IntKind.u64.wrap (p0x * p1y)))]) ⟨rfl, rfl, trivial⟩
  refine nrm ?_
  refine wp_ret ?_
  obtain rfl := Option.some.inj hm
  exact ret_2 haq50 rfl (res_tmp haq50 rfl) (res_tmp haq50 rfl) ⟨_, rfl, rfl, _, Hp.le.rfl, St.sel (hsq50) 1 [0] rfl rfl⟩
set_option maxHeartbeats 8000000 in
theorem c_w_heldBoolS (p0a : List Bool) (p1k : Int) (r : Int) (hm : m_w_heldBoolS p0a p1k = some r) {I : Hp} {w0 : World} (va0 : Value) (ra0 : (rSlice 4 rBool).rd I [va0] p0a) : Con Try.prog 57 #[va0, .int .i64 p1k] I w0 [] (fun v => v = .int .i64 r) (fun v => []) := by
  refine con_of_wp (n := 23) [(0, va0), (1, .int .i64 p1k)] Try.func57 rfl rfl (Nat.le_of_ble_eq_true rfl) (args_all ⟨rfl, rfl, trivial⟩) (fun F w a ha hs => ?_) (fun v => trivial)
  unfold m_w_heldBoolS at hm
  refine wp_seq ?_
  refine wp_region_lit ?_
  refine seq_op0 ha hs (opT_assign (v := .int .i64 0) rfl rfl) rfl rfl ?_
  rintro u aq1 wq1 hf haq1 hsq1
  obtain rfl := Eq.symm hf
  clear ha hs a w
  refine wpList_nil ?_
  replace haq1 := haq1.pick' (L' := [(0, va0), (1, .int .i64 p1k)]) ⟨rfl, rfl, trivial⟩
  refine nrm ?_
  refine wp_seq ?_
  refine wp_seq ?_
  refine wp_region_lit ?_
  refine seq_op0 haq1 hsq1 (opT_assign (v := .int .i64 0) rfl rfl) rfl rfl ?_
  rintro u aq2 wq2 hf haq2 hsq2
  obtain rfl := Eq.symm hf
  clear haq1 hsq1 aq1 wq1
  refine wpList_nil ?_
  replace haq2 := haq2.pick' (L' := [(0, va0), (1, .int .i64 p1k), (5, .int .i64 0)]) ⟨rfl, rfl, rfl, trivial⟩
  refine nrm ?_
  obtain ⟨o1, hl1, hc1⟩ := bindL_some hm
  refine wp_cut (fun a w => ∃ s4 : Int × Int, o1 = .brk s4 ∧ Agr 23 a [(1, .int .i64 s4.1)] ∧ St I w0 w [F]) ?_ ?_
  · refine wp_block (wp_loopM (R := Int) (S := Int × Int) (fun s3 a w => Agr 23 a [(0, va0), (1, .int .i64 s3.1), (5, .int .i64 s3.2)] ∧ St I w0 w [F]) hl1 ?_ ?_)
    · exact ⟨haq2.pick' ⟨rfl, rfl, rfl, trivial⟩, St.sel hsq2 1 [0] rfl rfl⟩
    · rintro s3 o2 hm hf1 aq41 wq41 ⟨haq41, hsq41⟩
      unfold m_w_heldBoolS_l0 at hm
      refine wp_seq ?_
      refine wp_seq ?_
      refine wp_region_lit ?_
      refine seq_op0 haq41 hsq41 (opT_move (v := .int .i64 s3.2) rfl rfl) rfl rfl ?_
      rintro u aq42 wq42 hf haq42 hsq42
      obtain rfl := Eq.symm hf
      clear haq41 hsq41 aq41 wq41
      refine seq_op0 haq42 hsq42 (opT_move (v := va0) rfl rfl) rfl rfl ?_
      rintro u aq43 wq43 hf haq43 hsq43
      obtain rfl := Eq.symm hf
      clear haq42 hsq42 aq42 wq42
      refine seq_op0 haq43 hsq43 (opT_len_hd (v := va0) (n := p0a.length) (Hd.of_rd ra0) Try.underlying22 rfl rfl) rfl rfl ?_
      rintro u aq44 wq44 hf haq44 hsq44
      obtain rfl := Eq.symm hf
      clear haq43 hsq43 aq43 wq43
      refine seq_op0 haq44 hsq44 (opT_cmp (k := .i64) (m := s3.2) (n := (p0a.length : Int)) (c := decide (s3.2 < (p0a.length : Int))) rfl rfl rfl rfl rfl) rfl rfl ?_
      rintro u aq45 wq45 hf haq45 hsq45
      obtain rfl := Eq.symm hf
      clear haq44 hsq44 aq44 wq44
      refine wpList_nil ?_
      replace haq45 := haq45.pick' (L' := [(0, va0), (1, .int .i64 s3.1), (5, .int .i64 s3.2), (9, .bool (decide (s3.2 < (p0a.length : Int))))]) ⟨rfl, rfl, rfl, rfl, trivial⟩
      refine nrm ?_
      rcases two (decide (s3.2 < (p0a.length : Int))) with hb5 | hb5
      · replace hm := ifFe hb5 hm
        refine cnd_false (b := decide (s3.2 < (p0a.length : Int))) haq45 rfl rfl hb5 ?_
        refine wp_exit ?_
        refine thenX ?_
        refine thenX ?_
        refine ex_in ?_
        refine nrm ?_
        exact ⟨_, loopBrk hm hf1, ⟨haq45.pick' ⟨rfl, trivial⟩, St.sel hsq45 1 [0] rfl rfl⟩⟩
      · replace hm := ifTe hb5 hm
        refine cnd_true (b := decide (s3.2 < (p0a.length : Int))) haq45 rfl rfl hb5 ?_
        refine wp_skip ?_
        refine nrm ?_
        refine wp_seq ?_
        refine wp_block ?_
        refine wp_seq ?_
        refine wp_seq ?_
        refine wp_region_lit ?_
        refine seq_op0 haq45 hsq45 (opT_move (v := va0) rfl rfl) rfl rfl ?_
        rintro u aq46 wq46 hf haq46 hsq46
        obtain rfl := Eq.symm hf
        clear haq45 hsq45 aq45 wq45
        refine seq_op0 haq46 hsq46 (opT_move (v := .int .i64 s3.2) rfl rfl) rfl rfl ?_
        rintro u aq47 wq47 hf haq47 hsq47
        obtain rfl := Eq.symm hf
        clear haq46 hsq46 aq46 wq46
        obtain ⟨x3, e3, hm⟩ := bind_some hm
        refine seq_op0 haq47 hsq47 (opT_index_hd (xs := p0a) (i := s3.2) (n := 1) (Hd.of_rd ra0) Try.underlying22 ti4 rfl rfl rfl (getI_in e3)) rfl rfl ?_
        rintro u aq48 wq48 hf haq48 hsq48
        obtain rfl := Eq.symm hf
        clear haq47 hsq47 aq47 wq47
        refine seq_op0 haq48 hsq48 (opT_load_el (S := rBool) (xs := p0a) (a := x3) (i := s3.2) (k := 1) (off := 0) (f := fun (x : Bool) => x) ra0 e3 Fld.self ti4 rfl rfl rfl rfl rfl) rfl rfl ?_
        rintro u aq49 wq49 hf haq49 hsq49
        obtain rfl := lds_one hf
        clear haq48 hsq48 aq48 wq48
        refine seq_op0 haq49 hsq49 (opT_move (v := .int .i64 s3.1) rfl rfl) rfl rfl ?_
        rintro u aq50 wq50 hf haq50 hsq50
        obtain rfl := Eq.symm hf
        clear haq49 hsq49 aq49 wq49
        refine seq_op0 haq50 hsq50 (opT_rem (m := s3.1) (n := 3) rfl rfl rfl (by decide)) rfl rfl ?_
        rintro u aq51 wq51 hf haq51 hsq51
        obtain rfl := Eq.symm hf
        clear haq50 hsq50 aq50 wq50
        refine seq_op0 haq51 hsq51 (opT_cmp (k := .i64) (m := Int.tmod s3.1 3) (n := 0) (c := (Int.tmod s3.1 3) == 0) rfl rfl rfl rfl rfl) rfl rfl ?_
        rintro u aq52 wq52 hf haq52 hsq52
        obtain rfl := Eq.symm hf
        clear haq51 hsq51 aq51 wq51
        refine seq_op0 haq52 hsq52 (opT_neb (b := x3) (c := (Int.tmod s3.1 3) == 0) Try.underlying4 rfl rfl rfl) rfl rfl ?_
        rintro u aq53 wq53 hf haq53 hsq53
        obtain rfl := Eq.symm hf
        clear haq52 hsq52 aq52 wq52
        refine wpList_nil ?_
        replace haq53 := haq53.pick' (L' := [(0, va0), (1, .int .i64 s3.1), (5, .int .i64 s3.2), (19, .bool (x3 != ((Int.tmod s3.1 3) == 0)))]) ⟨rfl, rfl, rfl, rfl, trivial⟩
        refine nrm ?_
        rcases two (x3 != ((Int.tmod s3.1 3) == 0)) with hb6 | hb6
        · replace hm := ifFe hb6 hm
          refine cnd_false (b := x3 != ((Int.tmod s3.1 3) == 0)) haq53 rfl rfl hb6 ?_
          refine wp_skip ?_
          refine nrm ?_
          refine wp_region_lit ?_
          refine seq_op0 haq53 hsq53 (opT_move (v := .int .i64 s3.1) rfl rfl) rfl rfl ?_
          rintro u aq54 wq54 hf haq54 hsq54
          obtain rfl := Eq.symm hf
          clear haq53 hsq53 aq53 wq53
          refine seq_op0 haq54 hsq54 (opT_add (m := s3.1) (n := 1) rfl rfl rfl) rfl rfl ?_
          rintro u aq55 wq55 hf haq55 hsq55
          obtain rfl := Eq.symm hf
          clear haq54 hsq54 aq54 wq54
          refine seq_op0 haq55 hsq55 (opT_assign (v := .int .i64 (IntKind.i64.wrap (s3.1 + 1))) rfl rfl) rfl rfl ?_
          rintro u aq56 wq56 hf haq56 hsq56
          obtain rfl := Eq.symm hf
          clear haq55 hsq55 aq55 wq55
          refine wpList_nil ?_
          replace haq56 := haq56.pick' (L' := [(0, va0), (1, .int .i64 (IntKind.i64.wrap (s3.1 + 1))), (5, .int .i64 s3.2)]) ⟨rfl, rfl, rfl, trivial⟩
          refine nrmB ?_
          refine nrm ?_
          refine wp_region_lit ?_
          refine seq_op0 haq56 hsq56 (opT_move (v := .int .i64 s3.2) rfl rfl) rfl rfl ?_
          rintro u aq57 wq57 hf haq57 hsq57
          obtain rfl := Eq.symm hf
          clear haq56 hsq56 aq56 wq56
          refine seq_op0 haq57 hsq57 (opT_add (m := s3.2) (n := 1) rfl rfl rfl) rfl rfl ?_
          rintro u aq58 wq58 hf haq58 hsq58
          obtain rfl := Eq.symm hf
          clear haq57 hsq57 aq57 wq57
          refine seq_op0 haq58 hsq58 (opT_assign (v := .int .i64 (IntKind.i64.wrap (s3.2 + 1))) rfl rfl) rfl rfl ?_
          rintro u aq59 wq59 hf haq59 hsq59
          obtain rfl := Eq.symm hf
          clear haq58 hsq58 aq58 wq58
          refine wpList_nil ?_
          replace haq59 := haq59.pick' (L' := [(0, va0), (1, .int .i64 (IntKind.i64.wrap (s3.1 + 1))), (5, .int .i64 (IntKind.i64.wrap (s3.2 + 1)))]) ⟨rfl, rfl, rfl, trivial⟩
          refine nrm ?_
          exact ⟨_, (Option.some.inj hm).symm, ⟨haq59.pick' ⟨rfl, rfl, rfl, trivial⟩, St.sel hsq59 1 [0] rfl rfl⟩⟩
        · replace hm := ifTe hb6 hm
          refine cnd_true (b := x3 != ((Int.tmod s3.1 3) == 0)) haq53 rfl rfl hb6 ?_
          refine wp_seq ?_
          refine wp_region_lit ?_
          refine seq_op0 haq53 hsq53 (opT_assign (v := .int .i64 (-1)) rfl rfl) rfl rfl ?_
          rintro u aq60 wq60 hf haq60 hsq60
          obtain rfl := Eq.symm hf
          clear haq53 hsq53 aq53 wq53
          refine wpList_nil ?_
          replace haq60 := haq60.pick' (L' := [(4, .int .i64 (-1))]) ⟨rfl, trivial⟩
          refine nrm ?_
          refine wp_ret ?_
          refine thenR ?_
          refine blkR ?_
          refine thenR ?_
          refine thenR ?_
          refine blkR ?_
          refine thenR ?_
          refine thenR ?_
          replace hm := loopRet hm hf1 hc1
          obtain rfl := Option.some.inj hm
          exact ret_1 haq60 rfl (res_tmp haq60 rfl) ⟨_, rfl, rfl, _, Hp.le.rfl, St.sel (hsq60) 1 [0] rfl rfl⟩
  · rintro aq61 wq61 ⟨s4, ho1, haq61, hsq61⟩
    replace hm := loopOut ho1 hc1
    clear ho1 hc1 hl1
    refine nrm ?_
    refine wp_seq ?_
    refine wp_region_lit ?_
    refine seq_op0 haq61 hsq61 (opT_move (v := .int .i64 s4.1) rfl rfl) rfl rfl ?_
    rintro u aq62 wq62 hf haq62 hsq62
    obtain rfl := Eq.symm hf
    clear haq61 hsq61 aq61 wq61
    refine seq_op0 haq62 hsq62 (opT_assign (v := .int .i64 s4.1) rfl rfl) rfl rfl ?_
    rintro u aq63 wq63 hf haq63 hsq63
    obtain rfl := Eq.symm hf
    clear haq62 hsq62 aq62 wq62
    refine wpList_nil ?_
    replace haq63 := haq63.pick' (L' := [(4, .int .i64 s4.1)]) ⟨rfl, trivial⟩
    refine nrm ?_
    refine wp_ret ?_
    obtain rfl := Option.some.inj hm
    exact ret_1 haq63 rfl (res_tmp haq63 rfl) ⟨_, rfl, rfl, _, Hp.le.rfl, St.sel (hsq63) 1 [0] rfl rfl⟩
set_option maxHeartbeats 8000000 in
theorem c_w_heldIntS (p0a : List Int) (p1k : Int) (r : Int) (hm : m_w_heldIntS p0a p1k = some r) {I : Hp} {w0 : World} (va0 : Value) (ra0 : (rSlice 3 rInt).rd I [va0] p0a) : Con Try.prog 103 #[va0, .int .i64 p1k] I w0 [] (fun v => v = .int .i64 r) (fun v => []) := by
  refine con_of_wp (n := 21) [(0, va0), (1, .int .i64 p1k)] Try.func103 rfl rfl (Nat.le_of_ble_eq_true rfl) (args_all ⟨rfl, rfl, trivial⟩) (fun F w a ha hs => ?_) (fun v => trivial)
  unfold m_w_heldIntS at hm
  refine wp_seq ?_
  refine wp_region_lit ?_
  refine seq_op0 ha hs (opT_assign (v := .int .i64 0) rfl rfl) rfl rfl ?_
  rintro u aq1 wq1 hf haq1 hsq1
  obtain rfl := Eq.symm hf
  clear ha hs a w
  refine wpList_nil ?_
  replace haq1 := haq1.pick' (L' := [(0, va0), (1, .int .i64 p1k)]) ⟨rfl, rfl, trivial⟩
  refine nrm ?_
  refine wp_seq ?_
  refine wp_seq ?_
  refine wp_region_lit ?_
  refine seq_op0 haq1 hsq1 (opT_assign (v := .int .i64 0) rfl rfl) rfl rfl ?_
  rintro u aq2 wq2 hf haq2 hsq2
  obtain rfl := Eq.symm hf
  clear haq1 hsq1 aq1 wq1
  refine wpList_nil ?_
  replace haq2 := haq2.pick' (L' := [(0, va0), (1, .int .i64 p1k), (5, .int .i64 0)]) ⟨rfl, rfl, rfl, trivial⟩
  refine nrm ?_
  obtain ⟨o1, hl1, hc1⟩ := bindL_some hm
  refine wp_cut (fun a w => ∃ s4 : Int × Int, o1 = .brk s4 ∧ Agr 21 a [(1, .int .i64 s4.1)] ∧ St I w0 w [F]) ?_ ?_
  · refine wp_block (wp_loopM (R := Int) (S := Int × Int) (fun s3 a w => Agr 21 a [(0, va0), (1, .int .i64 s3.1), (5, .int .i64 s3.2)] ∧ St I w0 w [F]) hl1 ?_ ?_)
    · exact ⟨haq2.pick' ⟨rfl, rfl, rfl, trivial⟩, St.sel hsq2 1 [0] rfl rfl⟩
    · rintro s3 o2 hm hf1 aq37 wq37 ⟨haq37, hsq37⟩
      unfold m_w_heldIntS_l0 at hm
      refine wp_seq ?_
      refine wp_seq ?_
      refine wp_region_lit ?_
      refine seq_op0 haq37 hsq37 (opT_move (v := .int .i64 s3.2) rfl rfl) rfl rfl ?_
      rintro u aq38 wq38 hf haq38 hsq38
      obtain rfl := Eq.symm hf
      clear haq37 hsq37 aq37 wq37
      refine seq_op0 haq38 hsq38 (opT_move (v := va0) rfl rfl) rfl rfl ?_
      rintro u aq39 wq39 hf haq39 hsq39
      obtain rfl := Eq.symm hf
      clear haq38 hsq38 aq38 wq38
      refine seq_op0 haq39 hsq39 (opT_len_hd (v := va0) (n := p0a.length) (Hd.of_rd ra0) Try.underlying34 rfl rfl) rfl rfl ?_
      rintro u aq40 wq40 hf haq40 hsq40
      obtain rfl := Eq.symm hf
      clear haq39 hsq39 aq39 wq39
      refine seq_op0 haq40 hsq40 (opT_cmp (k := .i64) (m := s3.2) (n := (p0a.length : Int)) (c := decide (s3.2 < (p0a.length : Int))) rfl rfl rfl rfl rfl) rfl rfl ?_
      rintro u aq41 wq41 hf haq41 hsq41
      obtain rfl := Eq.symm hf
      clear haq40 hsq40 aq40 wq40
      refine wpList_nil ?_
      replace haq41 := haq41.pick' (L' := [(0, va0), (1, .int .i64 s3.1), (5, .int .i64 s3.2), (9, .bool (decide (s3.2 < (p0a.length : Int))))]) ⟨rfl, rfl, rfl, rfl, trivial⟩
      refine nrm ?_
      rcases two (decide (s3.2 < (p0a.length : Int))) with hb5 | hb5
      · replace hm := ifFe hb5 hm
        refine cnd_false (b := decide (s3.2 < (p0a.length : Int))) haq41 rfl rfl hb5 ?_
        refine wp_exit ?_
        refine thenX ?_
        refine thenX ?_
        refine ex_in ?_
        refine nrm ?_
        exact ⟨_, loopBrk hm hf1, ⟨haq41.pick' ⟨rfl, trivial⟩, St.sel hsq41 1 [0] rfl rfl⟩⟩
      · replace hm := ifTe hb5 hm
        refine cnd_true (b := decide (s3.2 < (p0a.length : Int))) haq41 rfl rfl hb5 ?_
        refine wp_skip ?_
        refine nrm ?_
        refine wp_seq ?_
        refine wp_block ?_
        refine wp_seq ?_
        refine wp_seq ?_
        refine wp_region_lit ?_
        refine seq_op0 haq41 hsq41 (opT_move (v := va0) rfl rfl) rfl rfl ?_
        rintro u aq42 wq42 hf haq42 hsq42
        obtain rfl := Eq.symm hf
        clear haq41 hsq41 aq41 wq41
        refine seq_op0 haq42 hsq42 (opT_move (v := .int .i64 s3.2) rfl rfl) rfl rfl ?_
        rintro u aq43 wq43 hf haq43 hsq43
        obtain rfl := Eq.symm hf
        clear haq42 hsq42 aq42 wq42
        obtain ⟨x3, e3, hm⟩ := bind_some hm
        refine seq_op0 haq43 hsq43 (opT_index_hd (xs := p0a) (i := s3.2) (n := 1) (Hd.of_rd ra0) Try.underlying34 ti3 rfl rfl rfl (getI_in e3)) rfl rfl ?_
        rintro u aq44 wq44 hf haq44 hsq44
        obtain rfl := Eq.symm hf
        clear haq43 hsq43 aq43 wq43
        refine seq_op0 haq44 hsq44 (opT_load_el (S := rInt) (xs := p0a) (a := x3) (i := s3.2) (k := 1) (off := 0) (f := fun (x : Int) => x) ra0 e3 Fld.self ti3 rfl rfl rfl rfl rfl) rfl rfl ?_
        rintro u aq45 wq45 hf haq45 hsq45
        obtain rfl := lds_one hf
        clear haq44 hsq44 aq44 wq44
        refine seq_op0 haq45 hsq45 (opT_move (v := .int .i64 s3.1) rfl rfl) rfl rfl ?_
        rintro u aq46 wq46 hf haq46 hsq46
        obtain rfl := Eq.symm hf
        clear haq45 hsq45 aq45 wq45
        refine seq_op0 haq46 hsq46 (opT_cmp (k := .i64) (m := x3) (n := s3.1) (c := x3 != s3.1) rfl rfl rfl rfl rfl) rfl rfl ?_
        rintro u aq47 wq47 hf haq47 hsq47
        obtain rfl := Eq.symm hf
        clear haq46 hsq46 aq46 wq46
        refine wpList_nil ?_
        replace haq47 := haq47.pick' (L' := [(0, va0), (1, .int .i64 s3.1), (5, .int .i64 s3.2), (17, .bool (x3 != s3.1))]) ⟨rfl, rfl, rfl, rfl, trivial⟩
        refine nrm ?_
        rcases two (x3 != s3.1) with hb6 | hb6
        · replace hm := ifFe hb6 hm
          refine cnd_false (b := x3 != s3.1) haq47 rfl rfl hb6 ?_
          refine wp_skip ?_
          refine nrm ?_
          refine wp_region_lit ?_
          refine seq_op0 haq47 hsq47 (opT_move (v := .int .i64 s3.1) rfl rfl) rfl rfl ?_
          rintro u aq48 wq48 hf haq48 hsq48
          obtain rfl := Eq.symm hf
          clear haq47 hsq47 aq47 wq47
          refine seq_op0 haq48 hsq48 (opT_add (m := s3.1) (n := 1) rfl rfl rfl) rfl rfl ?_
          rintro u aq49 wq49 hf haq49 hsq49
          obtain rfl := Eq.symm hf
          clear haq48 hsq48 aq48 wq48
          refine seq_op0 haq49 hsq49 (opT_assign (v := .int .i64 (IntKind.i64.wrap (s3.1 + 1))) rfl rfl) rfl rfl ?_
          rintro u aq50 wq50 hf haq50 hsq50
          obtain rfl := Eq.symm hf
          clear haq49 hsq49 aq49 wq49
          refine wpList_nil ?_
          replace haq50 := haq50.pick' (L' := [(0, va0), (1, .int .i64 (IntKind.i64.wrap (s3.1 + 1))), (5, .int .i64 s3.2)]) ⟨rfl, rfl, rfl, trivial⟩
          refine nrmB ?_
          refine nrm ?_
          refine wp_region_lit ?_
          refine seq_op0 haq50 hsq50 (opT_move (v := .int .i64 s3.2) rfl rfl) rfl rfl ?_
          rintro u aq51 wq51 hf haq51 hsq51
          obtain rfl := Eq.symm hf
          clear haq50 hsq50 aq50 wq50
          refine seq_op0 haq51 hsq51 (opT_add (m := s3.2) (n := 1) rfl rfl rfl) rfl rfl ?_
          rintro u aq52 wq52 hf haq52 hsq52
          obtain rfl := Eq.symm hf
          clear haq51 hsq51 aq51 wq51
          refine seq_op0 haq52 hsq52 (opT_assign (v := .int .i64 (IntKind.i64.wrap (s3.2 + 1))) rfl rfl) rfl rfl ?_
          rintro u aq53 wq53 hf haq53 hsq53
          obtain rfl := Eq.symm hf
          clear haq52 hsq52 aq52 wq52
          refine wpList_nil ?_
          replace haq53 := haq53.pick' (L' := [(0, va0), (1, .int .i64 (IntKind.i64.wrap (s3.1 + 1))), (5, .int .i64 (IntKind.i64.wrap (s3.2 + 1)))]) ⟨rfl, rfl, rfl, trivial⟩
          refine nrm ?_
          exact ⟨_, (Option.some.inj hm).symm, ⟨haq53.pick' ⟨rfl, rfl, rfl, trivial⟩, St.sel hsq53 1 [0] rfl rfl⟩⟩
        · replace hm := ifTe hb6 hm
          refine cnd_true (b := x3 != s3.1) haq47 rfl rfl hb6 ?_
          refine wp_seq ?_
          refine wp_region_lit ?_
          refine seq_op0 haq47 hsq47 (opT_assign (v := .int .i64 (-1)) rfl rfl) rfl rfl ?_
          rintro u aq54 wq54 hf haq54 hsq54
          obtain rfl := Eq.symm hf
          clear haq47 hsq47 aq47 wq47
          refine wpList_nil ?_
          replace haq54 := haq54.pick' (L' := [(4, .int .i64 (-1))]) ⟨rfl, trivial⟩
          refine nrm ?_
          refine wp_ret ?_
          refine thenR ?_
          refine blkR ?_
          refine thenR ?_
          refine thenR ?_
          refine blkR ?_
          refine thenR ?_
          refine thenR ?_
          replace hm := loopRet hm hf1 hc1
          obtain rfl := Option.some.inj hm
          exact ret_1 haq54 rfl (res_tmp haq54 rfl) ⟨_, rfl, rfl, _, Hp.le.rfl, St.sel (hsq54) 1 [0] rfl rfl⟩
  · rintro aq55 wq55 ⟨s4, ho1, haq55, hsq55⟩
    replace hm := loopOut ho1 hc1
    clear ho1 hc1 hl1
    refine nrm ?_
    refine wp_seq ?_
    refine wp_region_lit ?_
    refine seq_op0 haq55 hsq55 (opT_move (v := .int .i64 s4.1) rfl rfl) rfl rfl ?_
    rintro u aq56 wq56 hf haq56 hsq56
    obtain rfl := Eq.symm hf
    clear haq55 hsq55 aq55 wq55
    refine seq_op0 haq56 hsq56 (opT_assign (v := .int .i64 s4.1) rfl rfl) rfl rfl ?_
    rintro u aq57 wq57 hf haq57 hsq57
    obtain rfl := Eq.symm hf
    clear haq56 hsq56 aq56 wq56
    refine wpList_nil ?_
    replace haq57 := haq57.pick' (L' := [(4, .int .i64 s4.1)]) ⟨rfl, trivial⟩
    refine nrm ?_
    refine wp_ret ?_
    obtain rfl := Option.some.inj hm
    exact ret_1 haq57 rfl (res_tmp haq57 rfl) ⟨_, rfl, rfl, _, Hp.le.rfl, St.sel (hsq57) 1 [0] rfl rfl⟩
set_option maxHeartbeats 8000000 in
theorem c_w_markBoolS (p0a : List Bool) (p1k : Int) (r : Int × (List Bool)) (hm : m_w_markBoolS p0a p1k = some r) {I : Hp} {w0 : World} (va0 : Value) : Con Try.prog 55 #[va0, .int .i64 p1k] I w0 [Ch.own (rSlice 4 rBool) [va0] p0a] (fun v => v = .int .i64 r.1) (fun v => [Ch.own (rSlice 4 rBool) [va0] r.2]) := by
  refine con_of_wp (n := 21) [(0, va0), (1, .int .i64 p1k)] Try.func55 rfl rfl (Nat.le_of_ble_eq_true rfl) (args_all ⟨rfl, rfl, trivial⟩) (fun F w a ha hs => ?_) (fun v => ⟨dp_own (dp_slice dp_bool), trivial⟩)
  unfold m_w_markBoolS at hm
  refine wp_seq ?_
  refine wp_region_lit ?_
  refine seq_op0 ha hs (opT_assign (v := .int .i64 0) rfl rfl) rfl rfl ?_
  rintro u aq1 wq1 hf haq1 hsq1
  obtain rfl := Eq.symm hf
  clear ha hs a w
  refine wpList_nil ?_
  replace haq1 := haq1.pick' (L' := [(0, va0), (1, .int .i64 p1k)]) ⟨rfl, rfl, trivial⟩
  refine nrm ?_
  refine wp_seq ?_
  refine wp_seq ?_
  refine wp_region_lit ?_
  refine seq_op0 haq1 hsq1 (opT_assign (v := .int .i64 0) rfl rfl) rfl rfl ?_
  rintro u aq2 wq2 hf haq2 hsq2
  obtain rfl := Eq.symm hf
  clear haq1 hsq1 aq1 wq1
  refine wpList_nil ?_
  replace haq2 := haq2.pick' (L' := [(0, va0), (1, .int .i64 p1k), (5, .int .i64 0)]) ⟨rfl, rfl, rfl, trivial⟩
  refine nrm ?_
  obtain ⟨o1, hl1, hc1⟩ := bindL_some hm
  refine wp_cut (fun a w => ∃ s4 : (List Bool) × Int × Int, o1 = .brk s4 ∧ Agr 21 a [(1, .int .i64 s4.2.1)] ∧ St I w0 w [Ch.own (rSlice 4 rBool) [va0] s4.1, F]) ?_ ?_
  · refine wp_block (wp_loopM (R := Int × (List Bool)) (S := (List Bool) × Int × Int) (fun s3 a w => Agr 21 a [(0, va0), (1, .int .i64 s3.2.1), (5, .int .i64 s3.2.2)] ∧ St I w0 w [Ch.own (rSlice 4 rBool) [va0] s3.1, F]) hl1 ?_ ?_)
    · exact ⟨haq2.pick' ⟨rfl, rfl, rfl, trivial⟩, St.sel hsq2 2 [0, 1] rfl rfl⟩
    · rintro s3 o2 hm hf1 aq37 wq37 ⟨haq37, hsq37⟩
      unfold m_w_markBoolS_l0 at hm
      refine wp_seq ?_
      refine wp_seq ?_
      refine wp_region_lit ?_
      refine seq_op0 haq37 hsq37 (opT_move (v := .int .i64 s3.2.2) rfl rfl) rfl rfl ?_
      rintro u aq38 wq38 hf haq38 hsq38
      obtain rfl := Eq.symm hf
      clear haq37 hsq37 aq37 wq37
      refine seq_op0 haq38 hsq38 (opT_move (v := va0) rfl rfl) rfl rfl ?_
      rintro u aq39 wq39 hf haq39 hsq39
      obtain rfl := Eq.symm hf
      clear haq38 hsq38 aq38 wq38
      refine seq_op0 haq39 hsq39 (opT_len_hd (v := va0) (n := s3.1.length) (St.hd hsq39 0 rfl).1 Try.underlying22 rfl rfl) rfl rfl ?_
      rintro u aq40 wq40 hf haq40 hsq40
      obtain rfl := Eq.symm hf
      clear haq39 hsq39 aq39 wq39
      refine seq_op0 haq40 hsq40 (opT_cmp (k := .i64) (m := s3.2.2) (n := (s3.1.length : Int)) (c := decide (s3.2.2 < (s3.1.length : Int))) rfl rfl rfl rfl rfl) rfl rfl ?_
      rintro u aq41 wq41 hf haq41 hsq41
      obtain rfl := Eq.symm hf
      clear haq40 hsq40 aq40 wq40
      refine wpList_nil ?_
      replace haq41 := haq41.pick' (L' := [(0, va0), (1, .int .i64 s3.2.1), (5, .int .i64 s3.2.2), (9, .bool (decide (s3.2.2 < (s3.1.length : Int))))]) ⟨rfl, rfl, rfl, rfl, trivial⟩
      refine nrm ?_
      rcases two (decide (s3.2.2 < (s3.1.length : Int))) with hb3 | hb3
      · replace hm := ifFe hb3 hm
        refine cnd_false (b := decide (s3.2.2 < (s3.1.length : Int))) haq41 rfl rfl hb3 ?_
        refine wp_exit ?_
        refine thenX ?_
        refine thenX ?_
        refine ex_in ?_
        refine nrm ?_
        exact ⟨_, loopBrk hm hf1, ⟨haq41.pick' ⟨rfl, trivial⟩, St.sel hsq41 2 [0, 1] rfl rfl⟩⟩
      · replace hm := ifTe hb3 hm
        refine cnd_true (b := decide (s3.2.2 < (s3.1.length : Int))) haq41 rfl rfl hb3 ?_
        refine wp_skip ?_
        refine nrm ?_
        refine wp_seq ?_
        refine wp_block ?_
        refine wp_seq ?_
        refine wp_region_lit ?_
        refine seq_op0 haq41 hsq41 (opT_move (v := va0) rfl rfl) rfl rfl ?_
        rintro u aq42 wq42 hf haq42 hsq42
        obtain rfl := Eq.symm hf
        clear haq41 hsq41 aq41 wq41
        refine seq_op0 haq42 hsq42 (opT_move (v := .int .i64 s3.2.2) rfl rfl) rfl rfl ?_
        rintro u aq43 wq43 hf haq43 hsq43
        obtain rfl := Eq.symm hf
        clear haq42 hsq42 aq42 wq42
        refine seq_op0 haq43 hsq43 (opT_move (v := .int .i64 s3.2.1) rfl rfl) rfl rfl ?_
        rintro u aq44 wq44 hf haq44 hsq44
        obtain rfl := Eq.symm hf
        clear haq43 hsq43 aq43 wq43
        refine seq_op0 haq44 hsq44 (opT_rem (m := s3.2.1) (n := 3) rfl rfl rfl (by decide)) rfl rfl ?_
        rintro u aq45 wq45 hf haq45 hsq45
        obtain rfl := Eq.symm hf
        clear haq44 hsq44 aq44 wq44
        refine seq_op0 haq45 hsq45 (opT_cmp (k := .i64) (m := Int.tmod s3.2.1 3) (n := 0) (c := (Int.tmod s3.2.1 3) == 0) rfl rfl rfl rfl rfl) rfl rfl ?_
        rintro u aq46 wq46 hf haq46 hsq46
        obtain rfl := Eq.symm hf
        clear haq45 hsq45 aq45 wq45
        obtain ⟨x3, e3, hm⟩ := bind_some hm
        refine seq_op0 haq46 hsq46 (opT_index_hd (xs := s3.1) (i := s3.2.2) (n := 1) (St.hd hsq46 0 rfl).1 Try.underlying22 ti4 rfl rfl rfl (getI_in e3)) rfl rfl ?_
        rintro u aq47 wq47 hf haq47 hsq47
        obtain rfl := Eq.symm hf
        clear haq46 hsq46 aq46 wq46
        refine seq_op haq47 hsq47 rfl (opT_store_el (E := 4) (R := rBool) (S := rBool) (xs := s3.1) (a := x3) (b := (Int.tmod s3.2.1 3) == 0) (i := s3.2.2) (k := 1) (off := 0) (f := fun x y => y) (v := va0) (d := [.bool ((Int.tmod s3.2.1 3) == 0)]) (u := .bool ((Int.tmod s3.2.1 3) == 0)) sh_bool cpy_bool e3 Upd.self ti4 rfl rfl rfl rfl (allC rfl allN) rfl rfl (by decide) rfl) (perm_front (i := 0) rfl) rfl ?_
        rintro _ aq48 wq48 - haq48 (hsq48 : St I w0 wq48 [Ch.own (rSlice 4 rBool) [va0] (s3.1.set s3.2.2.toNat ((Int.tmod s3.2.1 3) == 0)), F])
        clear haq47 hsq47 aq47 wq47
        refine wpList_nil ?_
        replace haq48 := haq48.pick' (L' := [(0, va0), (1, .int .i64 s3.2.1), (5, .int .i64 s3.2.2)]) ⟨rfl, rfl, rfl, trivial⟩
        refine nrm ?_
        refine wp_region_lit ?_
        refine seq_op0 haq48 hsq48 (opT_move (v := .int .i64 s3.2.1) rfl rfl) rfl rfl ?_
        rintro u aq49 wq49 hf haq49 hsq49
        obtain rfl := Eq.symm hf
        clear haq48 hsq48 aq48 wq48
        refine seq_op0 haq49 hsq49 (opT_add (m := s3.2.1) (n := 1) rfl rfl rfl) rfl rfl ?_
        rintro u aq50 wq50 hf haq50 hsq50
        obtain rfl := Eq.symm hf
        clear haq49 hsq49 aq49 wq49
        refine seq_op0 haq50 hsq50 (opT_assign (v := .int .i64 (IntKind.i64.wrap (s3.2.1 + 1))) rfl rfl) rfl rfl ?_
        rintro u aq51 wq51 hf haq51 hsq51
        obtain rfl := Eq.symm hf
        clear haq50 hsq50 aq50 wq50
        refine wpList_nil ?_
        replace haq51 := haq51.pick' (L' := [(0, va0), (1, .int .i64 (IntKind.i64.wrap (s3.2.1 + 1))), (5, .int .i64 s3.2.2)]) ⟨rfl, rfl, rfl, trivial⟩
        refine nrmB ?_
        refine nrm ?_
        refine wp_region_lit ?_
        refine seq_op0 haq51 hsq51 (opT_move (v := .int .i64 s3.2.2) rfl rfl) rfl rfl ?_
        rintro u aq52 wq52 hf haq52 hsq52
        obtain rfl := Eq.symm hf
        clear haq51 hsq51 aq51 wq51
        refine seq_op0 haq52 hsq52 (opT_add (m := s3.2.2) (n := 1) rfl rfl rfl) rfl rfl ?_
        rintro u aq53 wq53 hf haq53 hsq53
        obtain rfl := Eq.symm hf
        clear haq52 hsq52 aq52 wq52
        refine seq_op0 haq53 hsq53 (opT_assign (v := .int .i64 (IntKind.i64.wrap (s3.2.2 + 1))) rfl rfl) rfl rfl ?_
        rintro u aq54 wq54 hf haq54 hsq54
        obtain rfl := Eq.symm hf
        clear haq53 hsq53 aq53 wq53
        refine wpList_nil ?_
        replace haq54 := haq54.pick' (L' := [(0, va0), (1, .int .i64 (IntKind.i64.wrap (s3.2.1 + 1))), (5, .int .i64 (IntKind.i64.wrap (s3.2.2 + 1)))]) ⟨rfl, rfl, rfl, trivial⟩
        refine nrm ?_
        exact ⟨_, (Option.some.inj hm).symm, ⟨haq54.pick' ⟨rfl, rfl, rfl, trivial⟩, St.sel hsq54 2 [0, 1] rfl rfl⟩⟩
  · rintro aq55 wq55 ⟨s4, ho1, haq55, hsq55⟩
    replace hm := loopOut ho1 hc1
    clear ho1 hc1 hl1
    refine nrm ?_
    refine wp_seq ?_
    refine wp_region_lit ?_
    refine seq_op0 haq55 hsq55 (opT_move (v := .int .i64 s4.2.1) rfl rfl) rfl rfl ?_
    rintro u aq56 wq56 hf haq56 hsq56
    obtain rfl := Eq.symm hf
    clear haq55 hsq55 aq55 wq55
    refine seq_op0 haq56 hsq56 (opT_assign (v := .int .i64 s4.2.1) rfl rfl) rfl rfl ?_
    rintro u aq57 wq57 hf haq57 hsq57
    obtain rfl := Eq.symm hf
    clear haq56 hsq56 aq56 wq56
    refine wpList_nil ?_
    replace haq57 := haq57.pick' (L' := [(4, .int .i64 s4.2.1)]) ⟨rfl, trivial⟩
    refine nrm ?_
    refine wp_ret ?_
    obtain rfl := Option.some.inj hm
    exact ret_1 haq57 rfl (res_tmp haq57 rfl) ⟨_, rfl, rfl, _, Hp.le.rfl, St.sel (hsq57) 2 [0, 1] rfl rfl⟩
set_option maxHeartbeats 8000000 in
theorem c_i_Automaton_accepts (p0a : Int × (List Bool) × (List (List Int))) (p1s : Int) (r : Bool) (hm : m_i_Automaton_accepts p0a p1s = some r) {I : Hp} {w0 : World} (va0 : Value) (va1 : Value) (ra0 : (rSlice 4 rBool).rd I [va0] p0a.2.1) (ra1 : (rSlice 34 (rSlice 3 rInt)).rd I [va1] p0a.2.2) : Con Try.prog 99 #[.agg #[.int .i64 p0a.1, va0, va1], .int .i64 p1s] I w0 [] (fun v => v = .bool r) (fun v => []) := by
  refine con_of_wp (n := 14) [(0, .agg #[.int .i64 p0a.1, va0, va1]), (1, .int .i64 p1s)] Try.func99 rfl rfl (Nat.le_of_ble_eq_true rfl) (args_all ⟨rfl, rfl, trivial⟩) (fun F w a ha hs => ?_) (fun v => trivial)
  unfold m_i_Automaton_accepts at hm
  refine wp_seq ?_
  refine wp_region_lit ?_
  refine seq_op ha hs rfl (opT_box (u := .agg #[.int .i64 p0a.1, va0, va1]) (l := [.int .i64 p0a.1, va0, va1]) rfl rfl rfl) (List.Perm.refl _) rfl ?_
  rintro _ aq1 wq1 ⟨g1, rfl⟩ haq1 (hsq1 : St I w0 wq1 [Ch.blk g1 [.int .i64 p0a.1, va0, va1] 27, F])
  clear ha hs a w
  refine seq_op0 haq1 hsq1 (opT_assign (v := .bool false) rfl rfl) rfl rfl ?_
  rintro u aq2 wq2 hf haq2 hsq2
  obtain rfl := Eq.symm hf
  clear haq1 hsq1 aq1 wq1
  refine wpList_nil ?_
  replace haq2 := haq2.pick' (L' := [(1, .int .i64 p1s), (2, .pointer (some ⟨g1, 0, none⟩))]) ⟨rfl, rfl, trivial⟩
  refine nrm ?_
  refine wp_seq ?_
  refine wp_region_lit ?_
  refine seq_op0 haq2 hsq2 (opT_move (v := .int .i64 p1s) rfl rfl) rfl rfl ?_
  rintro u aq3 wq3 hf haq3 hsq3
  obtain rfl := Eq.symm hf
  clear haq2 hsq2 aq2 wq2
  refine seq_op0 haq3 hsq3 (opT_cmp (k := .i64) (m := p1s) (n := 0) (c := decide (p1s ≥ 0)) rfl rfl rfl rfl rfl) rfl rfl ?_
  rintro u aq4 wq4 hf haq4 hsq4
  obtain rfl := Eq.symm hf
  clear haq3 hsq3 aq3 wq3
  refine seq_op0 haq4 hsq4 (opT_move (v := .bool (decide (p1s ≥ 0))) rfl rfl) rfl rfl ?_
  rintro u aq5 wq5 hf haq5 hsq5
  obtain rfl := Eq.symm hf
  clear haq4 hsq4 aq4 wq4
  rcases two (decide (p1s ≥ 0)) with hb1 | hb1
  · replace hm := ifFe hb1 hm
    refine seq_skip (g := 2) (d := 7) (want := true) (b := decide (p1s ≥ 0)) haq5 hsq5 rfl rfl rfl hb1 rfl ?_
    intro aq6 haq6
    refine seq_skip (g := 2) (d := 7) (want := true) (b := decide (p1s ≥ 0)) haq6 hsq5 rfl rfl rfl hb1 rfl ?_
    intro aq7 haq7
    refine seq_skip (g := 2) (d := 7) (want := true) (b := decide (p1s ≥ 0)) haq7 hsq5 rfl rfl rfl hb1 rfl ?_
    intro aq8 haq8
    refine seq_skip (g := 2) (d := 7) (want := true) (b := decide (p1s ≥ 0)) haq8 hsq5 rfl rfl rfl hb1 rfl ?_
    intro aq9 haq9
    refine seq_skip (g := 2) (d := 7) (want := true) (b := decide (p1s ≥ 0)) haq9 hsq5 rfl rfl rfl hb1 rfl ?_
    intro aq10 haq10
    refine seq_op0 haq10 hsq5 (opT_pick (b := decide (p1s ≥ 0)) (v := .bool false) rfl rfl (ifF hb1)) rfl rfl ?_
    rintro u aq11 wq11 hf haq11 hsq11
    obtain rfl := Eq.symm hf
    clear haq10 hsq5 aq10 wq5
    refine seq_op0 haq11 hsq11 (opT_assign (v := .bool false) rfl rfl) rfl rfl ?_
    rintro u aq12 wq12 hf haq12 hsq12
    obtain rfl := Eq.symm hf
    clear haq11 hsq11 aq11 wq11
    refine wpList_nil ?_
    replace haq12 := haq12.pick' (L' := [(4, .bool false)]) ⟨rfl, trivial⟩
    refine nrm ?_
    refine wp_ret ?_
    obtain rfl := Option.some.inj hm
    exact ret_1 haq12 rfl (res_tmp haq12 rfl) ⟨_, rfl, rfl, _, Hp.le.rfl, St.sel (hsq12) 2 [1] rfl rfl⟩
  · replace hm := ifTe hb1 hm
    refine seq_op_g0 (g := 2) (d := 7) (want := true) (b := decide (p1s ≥ 0)) haq5 hsq5 rfl rfl rfl hb1 (opT_field_addr (g := g1) (b := 0) tf27_1 rfl rfl) rfl ?_
    rintro u aq13 wq13 hf haq13 hsq13
    obtain rfl := Eq.symm hf
    clear haq5 hsq5 aq5 wq5
    refine seq_op_g (g := 2) (d := 7) (want := true) (b := decide (p1s ≥ 0)) haq13 hsq13 rfl rfl rfl hb1 (opT_load_blk (g := g1) (off := 1) (E := 27) (l := [.int .i64 p0a.1, va0, va1]) (d := [va0]) (u := va0) ti22 rfl rfl rfl rfl rfl rfl) (perm_front (i := 0) rfl) rfl ?_
    rintro u aq14 wq14 hf haq14 (hsq14 : St I w0 wq14 [Ch.blk g1 [.int .i64 p0a.1, va0, va1] 27, F])
    obtain rfl := Eq.symm hf
    clear haq13 hsq13 aq13 wq13
    refine seq_op_g0 (g := 2) (d := 7) (want := true) (b := decide (p1s ≥ 0)) haq14 hsq14 rfl rfl rfl hb1 (opT_move (v := .int .i64 p1s) rfl rfl) rfl ?_
    rintro u aq15 wq15 hf haq15 hsq15
    obtain rfl := Eq.symm hf
    clear haq14 hsq14 aq14 wq14
    obtain ⟨x1, e1, hm⟩ := bind_some hm
    refine seq_op_g0 (g := 2) (d := 7) (want := true) (b := decide (p1s ≥ 0)) haq15 hsq15 rfl rfl rfl hb1 (opT_index_hd (xs := p0a.2.1) (i := p1s) (n := 1) (Hd.of_rd ra0) Try.underlying22 ti4 rfl rfl rfl (getI_in e1)) rfl ?_
    rintro u aq16 wq16 hf haq16 hsq16
    obtain rfl := Eq.symm hf
    clear haq15 hsq15 aq15 wq15
    refine seq_op_g0 (g := 2) (d := 7) (want := true) (b := decide (p1s ≥ 0)) haq16 hsq16 rfl rfl rfl hb1 (opT_load_el (S := rBool) (xs := p0a.2.1) (a := x1) (i := p1s) (k := 1) (off := 0) (f := fun (x : Bool) => x) ra0 e1 Fld.self ti4 rfl rfl rfl rfl rfl) rfl ?_
    rintro u aq17 wq17 hf haq17 hsq17
    obtain rfl := lds_one hf
    clear haq16 hsq16 aq16 wq16
    refine seq_op0 haq17 hsq17 (opT_pick (b := decide (p1s ≥ 0)) (v := .bool x1) rfl rfl (ifT hb1)) rfl rfl ?_
    rintro u aq18 wq18 hf haq18 hsq18
    obtain rfl := Eq.symm hf
    clear haq17 hsq17 aq17 wq17
    refine seq_op0 haq18 hsq18 (opT_assign (v := .bool x1) rfl rfl) rfl rfl ?_
    rintro u aq19 wq19 hf haq19 hsq19
    obtain rfl := Eq.symm hf
    clear haq18 hsq18 aq18 wq18
    refine wpList_nil ?_
    replace haq19 := haq19.pick' (L' := [(4, .bool x1)]) ⟨rfl, trivial⟩
    refine nrm ?_
    refine wp_ret ?_
    obtain rfl := Option.some.inj hm
    exact ret_1 haq19 rfl (res_tmp haq19 rfl) ⟨_, rfl, rfl, _, Hp.le.rfl, St.sel (hsq19) 2 [1] rfl rfl⟩
set_option maxHeartbeats 8000000 in
theorem c_s_l1In (p0x : Int) (p1low : Int) (p2high : Int) (r : Bool) (hm : m_s_l1In p0x p1low p2high = some r) {I : Hp} {w0 : World} : Con Try.prog 146 #[.int .i64 p0x, .int .i64 p1low, .int .i64 p2high] I w0 [] (fun v => v = .bool r) (fun v => []) := by
  refine con_of_wp (n := 15) [(0, .int .i64 p0x), (1, .int .i64 p1low), (2, .int .i64 p2high)] Try.func146 rfl rfl (Nat.le_of_ble_eq_true rfl) (args_all ⟨rfl, rfl, rfl, trivial⟩) (fun F w a ha hs => ?_) (fun v => trivial)
  unfold m_s_l1In at hm
  refine wp_seq ?_
  refine wp_region_lit ?_
  refine seq_op0 ha hs (opT_assign (v := .bool false) rfl rfl) rfl rfl ?_
  rintro u aq1 wq1 hf haq1 hsq1
  obtain rfl := Eq.symm hf
  clear ha hs a w
  refine wpList_nil ?_
  replace haq1 := haq1.pick' (L' := [(0, .int .i64 p0x), (1, .int .i64 p1low), (2, .int .i64 p2high)]) ⟨rfl, rfl, rfl, trivial⟩
  refine nrm ?_
  refine wp_seq ?_
  refine wp_region_lit ?_
  refine seq_op0 haq1 hsq1 (opT_move (v := .int .i64 p0x) rfl rfl) rfl rfl ?_
  rintro u aq2 wq2 hf haq2 hsq2
  obtain rfl := Eq.symm hf
  clear haq1 hsq1 aq1 wq1
  refine seq_op0 haq2 hsq2 (opT_move (v := .int .i64 p1low) rfl rfl) rfl rfl ?_
  rintro u aq3 wq3 hf haq3 hsq3
  obtain rfl := Eq.symm hf
  clear haq2 hsq2 aq2 wq2
  refine seq_op0 haq3 hsq3 (opT_cmp (k := .i64) (m := p0x) (n := p1low) (c := decide (p0x ≥ p1low)) rfl rfl rfl rfl rfl) rfl rfl ?_
  rintro u aq4 wq4 hf haq4 hsq4
  obtain rfl := Eq.symm hf
  clear haq3 hsq3 aq3 wq3
  refine seq_op0 haq4 hsq4 (opT_move (v := .bool (decide (p0x ≥ p1low))) rfl rfl) rfl rfl ?_
  rintro u aq5 wq5 hf haq5 hsq5
  obtain rfl := Eq.symm hf
  clear haq4 hsq4 aq4 wq4
  rcases two (decide (p0x ≥ p1low)) with hb1 | hb1
  · replace hm := ifFe hb1 hm
    refine seq_skip (g := 3) (d := 10) (want := true) (b := decide (p0x ≥ p1low)) haq5 hsq5 rfl rfl rfl hb1 rfl ?_
    intro aq6 haq6
    refine seq_skip (g := 3) (d := 10) (want := true) (b := decide (p0x ≥ p1low)) haq6 hsq5 rfl rfl rfl hb1 rfl ?_
    intro aq7 haq7
    refine seq_skip (g := 3) (d := 10) (want := true) (b := decide (p0x ≥ p1low)) haq7 hsq5 rfl rfl rfl hb1 rfl ?_
    intro aq8 haq8
    refine seq_op0 haq8 hsq5 (opT_pick (b := decide (p0x ≥ p1low)) (v := .bool false) rfl rfl (ifF hb1)) rfl rfl ?_
    rintro u aq9 wq9 hf haq9 hsq9
    obtain rfl := Eq.symm hf
    clear haq8 hsq5 aq8 wq5
    refine seq_op0 haq9 hsq9 (opT_assign (v := .bool false) rfl rfl) rfl rfl ?_
    rintro u aq10 wq10 hf haq10 hsq10
    obtain rfl := Eq.symm hf
    clear haq9 hsq9 aq9 wq9
    refine wpList_nil ?_
    replace haq10 := haq10.pick' (L' := [(6, .bool false)]) ⟨rfl, trivial⟩
    refine nrm ?_
    refine wp_ret ?_
    obtain rfl := Option.some.inj hm
    exact ret_1 haq10 rfl (res_tmp haq10 rfl) ⟨_, rfl, rfl, _, Hp.le.rfl, St.sel (hsq10) 1 [0] rfl rfl⟩
  · replace hm := ifTe hb1 hm
    refine seq_op_g0 (g := 3) (d := 10) (want := true) (b := decide (p0x ≥ p1low)) haq5 hsq5 rfl rfl rfl hb1 (opT_move (v := .int .i64 p0x) rfl rfl) rfl ?_
    rintro u aq11 wq11 hf haq11 hsq11
    obtain rfl := Eq.symm hf
    clear haq5 hsq5 aq5 wq5
    refine seq_op_g0 (g := 3) (d := 10) (want := true) (b := decide (p0x ≥ p1low)) haq11 hsq11 rfl rfl rfl hb1 (opT_move (v := .int .i64 p2high) rfl rfl) rfl ?_
    rintro u aq12 wq12 hf haq12 hsq12
    obtain rfl := Eq.symm hf
    clear haq11 hsq11 aq11 wq11
    refine seq_op_g0 (g := 3) (d := 10) (want := true) (b := decide (p0x ≥ p1low)) haq12 hsq12 rfl rfl rfl hb1 (opT_cmp (k := .i64) (m := p0x) (n := p2high) (c := decide (p0x ≤ p2high)) rfl rfl rfl rfl rfl) rfl ?_
    rintro u aq13 wq13 hf haq13 hsq13
    obtain rfl := Eq.symm hf
    clear haq12 hsq12 aq12 wq12
    refine seq_op0 haq13 hsq13 (opT_pick (b := decide (p0x ≥ p1low)) (v := .bool (decide (p0x ≤ p2high))) rfl rfl (ifT hb1)) rfl rfl ?_
    rintro u aq14 wq14 hf haq14 hsq14
    obtain rfl := Eq.symm hf
    clear haq13 hsq13 aq13 wq13
    refine seq_op0 haq14 hsq14 (opT_assign (v := .bool (decide (p0x ≤ p2high))) rfl rfl) rfl rfl ?_
    rintro u aq15 wq15 hf haq15 hsq15
    obtain rfl := Eq.symm hf
    clear haq14 hsq14 aq14 wq14
    refine wpList_nil ?_
    replace haq15 := haq15.pick' (L' := [(6, .bool (decide (p0x ≤ p2high)))]) ⟨rfl, trivial⟩
    refine nrm ?_
    refine wp_ret ?_
    obtain rfl := Option.some.inj hm
    exact ret_1 haq15 rfl (res_tmp haq15 rfl) ⟨_, rfl, rfl, _, Hp.le.rfl, St.sel (hsq15) 1 [0] rfl rfl⟩
end Go.Proofs.Ytcihbmdppgpmjaa.D
