/- Printed by dec.py: models of functions and the walks that show them. -/
import Derived.Test.YtcihbmdppgpmjaaIm
set_option linter.unusedVariables false
set_option linter.unusedSimpArgs false
set_option linter.unnecessarySimpa false
set_option maxRecDepth 100000
namespace Go.Proofs.Ytcihbmdppgpmjaa.D
open Go.RowKit
set_option maxHeartbeats 8000000 in
theorem c_g_math_bits_Mul64 (p0x : Int) (p1y : Int) (r : Int × Int) (hm : m_g_math_bits_Mul64 p0x p1y = some r) {I : Hp} {w0 : World} : Con Try.prog 188 #[.int .u64 p0x, .int .u64 p1y] I w0 [] (fun v => v = .tuple #[.int .u64 r.1, .int .u64 r.2]) (fun v => []) := by
  refine con_of_wp (n := 51) [(0, .int .u64 p0x), (1, .int .u64 p1y)] Try.func188 rfl rfl (Nat.le_of_ble_eq_true rfl) (args_all ⟨rfl, rfl, trivial⟩) (fun F w a ha hs => ?_) (fun v => trivial)
  unfold m_g_math_bits_Mul64 at hm
  refine wp_seq ?_
  refine wp_region_lit ?_
  refine seq_op0 ha hs (opT_assign (v := .int .u64 0) rfl rfl) rfl rfl ?_
  rintro u aq1 wq1 hf haq1 hsq1
  obtain rfl := Eq.symm hf
  clear ha hs a w
  refine seq_op0 haq1 hsq1 (opT_assign (v := .int .u64 0) rfl rfl) rfl rfl ?_
  rintro u aq2 wq2 hf haq2 hsq2
  obtain rfl := Eq.symm hf
  clear haq1 hsq1 aq1 wq1
  refine wpList_nil ?_
  replace haq2 := haq2.pick' (L' := [(0, .int .u64 p0x), (1, .int .u64 p1y)]) ⟨rfl, rfl, trivial⟩
  refine nrm ?_
  refine wp_seq ?_
  refine wp_region_lit ?_
  refine seq_op0 haq2 hsq2 (opT_move (v := .int .u64 p0x) rfl rfl) rfl rfl ?_
  rintro u aq3 wq3 hf haq3 hsq3
  obtain rfl := Eq.symm hf
  clear haq2 hsq2 aq2 wq2
  refine seq_op0 haq3 hsq3 (opU_and (m := p0x) (n := 4294967295) rfl rfl rfl) rfl rfl ?_
  rintro u aq4 wq4 hf haq4 hsq4
  obtain rfl := Eq.symm hf
  clear haq3 hsq3 aq3 wq3
  refine seq_op0 haq4 hsq4 (opT_assign (v := .int .u64 (andU p0x 4294967295)) rfl rfl) rfl rfl ?_
  rintro u aq5 wq5 hf haq5 hsq5
  obtain rfl := Eq.symm hf
  clear haq4 hsq4 aq4 wq4
  refine wpList_nil ?_
  replace haq5 := haq5.pick' (L' := [(0, .int .u64 p0x), (1, .int .u64 p1y), (6, .int .u64 (andU p0x 4294967295))]) ⟨rfl, rfl, rfl, trivial⟩
  refine nrm ?_
  refine wp_seq ?_
  refine wp_region_lit ?_
  refine seq_op0 haq5 hsq5 (opT_move (v := .int .u64 p0x) rfl rfl) rfl rfl ?_
  rintro u aq6 wq6 hf haq6 hsq6
  obtain rfl := Eq.symm hf
  clear haq5 hsq5 aq5 wq5
  refine seq_op0 haq6 hsq6 (opU_shr (m := p0x) (n := 32) rfl rfl rfl (by decide)) rfl rfl ?_
  rintro u aq7 wq7 hf haq7 hsq7
  obtain rfl := Eq.symm hf
  clear haq6 hsq6 aq6 wq6
  refine seq_op0 haq7 hsq7 (opT_assign (v := .int .u64 (shrI p0x 32)) rfl rfl) rfl rfl ?_
  rintro u aq8 wq8 hf haq8 hsq8
  obtain rfl := Eq.symm hf
  clear haq7 hsq7 aq7 wq7
  refine wpList_nil ?_
  replace haq8 := haq8.pick' (L' := [(0, .int .u64 p0x), (1, .int .u64 p1y), (6, .int .u64 (andU p0x 4294967295)), (7, .int .u64 (shrI p0x 32))]) ⟨rfl, rfl, rfl, rfl, trivial⟩
  refine nrm ?_
  refine wp_seq ?_
  refine wp_region_lit ?_
  refine seq_op0 haq8 hsq8 (opT_move (v := .int .u64 p1y) rfl rfl) rfl rfl ?_
  rintro u aq9 wq9 hf haq9 hsq9
  obtain rfl := Eq.symm hf
  clear haq8 hsq8 aq8 wq8
  refine seq_op0 haq9 hsq9 (opU_and (m := p1y) (n := 4294967295) rfl rfl rfl) rfl rfl ?_
  rintro u aq10 wq10 hf haq10 hsq10
  obtain rfl := Eq.symm hf
  clear haq9 hsq9 aq9 wq9
  refine seq_op0 haq10 hsq10 (opT_assign (v := .int .u64 (andU p1y 4294967295)) rfl rfl) rfl rfl ?_
  rintro u aq11 wq11 hf haq11 hsq11
  obtain rfl := Eq.symm hf
  clear haq10 hsq10 aq10 wq10
  refine wpList_nil ?_
  replace haq11 := haq11.pick' (L' := [(0, .int .u64 p0x), (1, .int .u64 p1y), (6, .int .u64 (andU p0x 4294967295)), (7, .int .u64 (shrI p0x 32)), (8, .int .u64 (andU p1y 4294967295))]) ⟨rfl, rfl, rfl, rfl, rfl, trivial⟩
  refine nrm ?_
  refine wp_seq ?_
  refine wp_region_lit ?_
  refine seq_op0 haq11 hsq11 (opT_move (v := .int .u64 p1y) rfl rfl) rfl rfl ?_
  rintro u aq12 wq12 hf haq12 hsq12
  obtain rfl := Eq.symm hf
  clear haq11 hsq11 aq11 wq11
  refine seq_op0 haq12 hsq12 (opU_shr (m := p1y) (n := 32) rfl rfl rfl (by decide)) rfl rfl ?_
  rintro u aq13 wq13 hf haq13 hsq13
  obtain rfl := Eq.symm hf
  clear haq12 hsq12 aq12 wq12
  refine seq_op0 haq13 hsq13 (opT_assign (v := .int .u64 (shrI p1y 32)) rfl rfl) rfl rfl ?_
  rintro u aq14 wq14 hf haq14 hsq14
  obtain rfl := Eq.symm hf
  clear haq13 hsq13 aq13 wq13
  refine wpList_nil ?_
  replace haq14 := haq14.pick' (L' := [(0, .int .u64 p0x), (1, .int .u64 p1y), (6, .int .u64 (andU p0x 4294967295)), (7, .int .u64 (shrI p0x 32)), (8, .int .u64 (andU p1y 4294967295)), (9, .int .u64 (shrI p1y 32))]) ⟨rfl, rfl, rfl, rfl, rfl, rfl, trivial⟩
  refine nrm ?_
  refine wp_seq ?_
  refine wp_region_lit ?_
  refine seq_op0 haq14 hsq14 (opT_move (v := .int .u64 (andU p0x 4294967295)) rfl rfl) rfl rfl ?_
  rintro u aq15 wq15 hf haq15 hsq15
  obtain rfl := Eq.symm hf
  clear haq14 hsq14 aq14 wq14
  refine seq_op0 haq15 hsq15 (opT_move (v := .int .u64 (andU p1y 4294967295)) rfl rfl) rfl rfl ?_
  rintro u aq16 wq16 hf haq16 hsq16
  obtain rfl := Eq.symm hf
  clear haq15 hsq15 aq15 wq15
  refine seq_op0 haq16 hsq16 (opU_mul (m := andU p0x 4294967295) (n := andU p1y 4294967295) rfl rfl rfl) rfl rfl ?_
  rintro u aq17 wq17 hf haq17 hsq17
  obtain rfl := Eq.symm hf
  clear haq16 hsq16 aq16 wq16
  refine seq_op0 haq17 hsq17 (opT_assign (v := .int .u64 (IntKind.u64.wrap ((andU p0x 4294967295) * (andU p1y 4294967295)))) rfl rfl) rfl rfl ?_
  rintro u aq18 wq18 hf haq18 hsq18
  obtain rfl := Eq.symm hf
  clear haq17 hsq17 aq17 wq17
  refine wpList_nil ?_
  replace haq18 := haq18.pick' (L' := [(0, .int .u64 p0x), (1, .int .u64 p1y), (6, .int .u64 (andU p0x 4294967295)), (7, .int .u64 (shrI p0x 32)), (8, .int .u64 (andU p1y 4294967295)), (9, .int .u64 (shrI p1y 32)), (10, .int .u64 (IntKind.u64.wrap ((andU p0x 4294967295) * (andU p1y 4294967295))))]) ⟨rfl, rfl, rfl, rfl, rfl, rfl, rfl, trivial⟩
  refine nrm ?_
  refine wp_seq ?_
  refine wp_region_lit ?_
  refine seq_op0 haq18 hsq18 (opT_move (v := .int .u64 (shrI p0x 32)) rfl rfl) rfl rfl ?_
  rintro u aq19 wq19 hf haq19 hsq19
  obtain rfl := Eq.symm hf
  clear haq18 hsq18 aq18 wq18
  refine seq_op0 haq19 hsq19 (opT_move (v := .int .u64 (andU p1y 4294967295)) rfl rfl) rfl rfl ?_
  rintro u aq20 wq20 hf haq20 hsq20
  obtain rfl := Eq.symm hf
  clear haq19 hsq19 aq19 wq19
  refine seq_op0 haq20 hsq20 (opU_mul (m := shrI p0x 32) (n := andU p1y 4294967295) rfl rfl rfl) rfl rfl ?_
  rintro u aq21 wq21 hf haq21 hsq21
  obtain rfl := Eq.symm hf
  clear haq20 hsq20 aq20 wq20
  refine seq_op0 haq21 hsq21 (opT_move (v := .int .u64 (IntKind.u64.wrap ((andU p0x 4294967295) * (andU p1y 4294967295)))) rfl rfl) rfl rfl ?_
  rintro u aq22 wq22 hf haq22 hsq22
  obtain rfl := Eq.symm hf
  clear haq21 hsq21 aq21 wq21
  refine seq_op0 haq22 hsq22 (opU_shr (m := IntKind.u64.wrap ((andU p0x 4294967295) * (andU p1y 4294967295))) (n := 32) rfl rfl rfl (by decide)) rfl rfl ?_
  rintro u aq23 wq23 hf haq23 hsq23
  obtain rfl := Eq.symm hf
  clear haq22 hsq22 aq22 wq22
  refine seq_op0 haq23 hsq23 (opU_add (m := IntKind.u64.wrap ((shrI p0x 32) * (andU p1y 4294967295))) (n := shrI (IntKind.u64.wrap ((andU p0x 4294967295) * (andU p1y 4294967295))) 32) rfl rfl rfl) rfl rfl ?_
  rintro u aq24 wq24 hf haq24 hsq24
  obtain rfl := Eq.symm hf
  clear haq23 hsq23 aq23 wq23
  refine seq_op0 haq24 hsq24 (opT_assign (v := .int .u64 (IntKind.u64.wrap ((IntKind.u64.wrap ((shrI p0x 32) * (andU p1y 4294967295))) + (shrI (IntKind.u64.wrap ((andU p0x 4294967295) * (andU p1y 4294967295))) 32)))) rfl rfl) rfl rfl ?_
  rintro u aq25 wq25 hf haq25 hsq25
  obtain rfl := Eq.symm hf
  clear haq24 hsq24 aq24 wq24
  refine wpList_nil ?_
  replace haq25 := haq25.pick' (L' := [(0, .int .u64 p0x), (1, .int .u64 p1y), (6, .int .u64 (andU p0x 4294967295)), (7, .int .u64 (shrI p0x 32)), (9, .int .u64 (shrI p1y 32)), (11, .int .u64 (IntKind.u64.wrap ((IntKind.u64.wrap ((shrI p0x 32) * (andU p1y 4294967295))) + (shrI (IntKind.u64.wrap ((andU p0x 4294967295) * (andU p1y 4294967295))) 32))))]) ⟨rfl, rfl, rfl, rfl, rfl, rfl, trivial⟩
  refine nrm ?_
  refine wp_seq ?_
  refine wp_region_lit ?_
  refine seq_op0 haq25 hsq25 (opT_move (v := .int .u64 (IntKind.u64.wrap ((IntKind.u64.wrap ((shrI p0x 32) * (andU p1y 4294967295))) + (shrI (IntKind.u64.wrap ((andU p0x 4294967295) * (andU p1y 4294967295))) 32)))) rfl rfl) rfl rfl ?_
  rintro u aq26 wq26 hf haq26 hsq26
  obtain rfl := Eq.symm hf
  clear haq25 hsq25 aq25 wq25
  refine seq_op0 haq26 hsq26 (opU_and (m := IntKind.u64.wrap ((IntKind.u64.wrap ((shrI p0x 32) * (andU p1y 4294967295))) + (shrI (IntKind.u64.wrap ((andU p0x 4294967295) * (andU p1y 4294967295))) 32))) (n := 4294967295) rfl rfl rfl) rfl rfl ?_
  rintro u aq27 wq27 hf haq27 hsq27
  obtain rfl := Eq.symm hf
  clear haq26 hsq26 aq26 wq26
  refine seq_op0 haq27 hsq27 (opT_assign (v := .int .u64 (andU (IntKind.u64.wrap ((IntKind.u64.wrap ((shrI p0x 32) * (andU p1y 4294967295))) + (shrI (IntKind.u64.wrap ((andU p0x 4294967295) * (andU p1y 4294967295))) 32))) 4294967295)) rfl rfl) rfl rfl ?_
  rintro u aq28 wq28 hf haq28 hsq28
  obtain rfl := Eq.symm hf
  clear haq27 hsq27 aq27 wq27
  refine wpList_nil ?_
  replace haq28 := haq28.pick' (L' := [(0, .int .u64 p0x), (1, .int .u64 p1y), (6, .int .u64 (andU p0x 4294967295)), (7, .int .u64 (shrI p0x 32)), (9, .int .u64 (shrI p1y 32)), (11, .int .u64 (IntKind.u64.wrap ((IntKind.u64.wrap ((shrI p0x 32) * (andU p1y 4294967295))) + (shrI (IntKind.u64.wrap ((andU p0x 4294967295) * (andU p1y 4294967295))) 32)))), (12, .int .u64 (andU (IntKind.u64.wrap ((IntKind.u64.wrap ((shrI p0x 32) * (andU p1y 4294967295))) + (shrI (IntKind.u64.wrap ((andU p0x 4294967295) * (andU p1y 4294967295))) 32))) 4294967295))]) ⟨rfl, rfl, rfl, rfl, rfl, rfl, rfl, trivial⟩
  refine nrm ?_
  refine wp_seq ?_
  refine wp_region_lit ?_
  refine seq_op0 haq28 hsq28 (opT_move (v := .int .u64 (IntKind.u64.wrap ((IntKind.u64.wrap ((shrI p0x 32) * (andU p1y 4294967295))) + (shrI (IntKind.u64.wrap ((andU p0x 4294967295) * (andU p1y 4294967295))) 32)))) rfl rfl) rfl rfl ?_
  rintro u aq29 wq29 hf haq29 hsq29
  obtain rfl := Eq.symm hf
  clear haq28 hsq28 aq28 wq28
  refine seq_op0 haq29 hsq29 (opU_shr (m := IntKind.u64.wrap ((IntKind.u64.wrap ((shrI p0x 32) * (andU p1y 4294967295))) + (shrI (IntKind.u64.wrap ((andU p0x 4294967295) * (andU p1y 4294967295))) 32))) (n := 32) rfl rfl rfl (by decide)) rfl rfl ?_
  rintro u aq30 wq30 hf haq30 hsq30
  obtain rfl := Eq.symm hf
  clear haq29 hsq29 aq29 wq29
  refine seq_op0 haq30 hsq30 (opT_assign (v := .int .u64 (shrI (IntKind.u64.wrap ((IntKind.u64.wrap ((shrI p0x 32) * (andU p1y 4294967295))) + (shrI (IntKind.u64.wrap ((andU p0x 4294967295) * (andU p1y 4294967295))) 32))) 32)) rfl rfl) rfl rfl ?_
  rintro u aq31 wq31 hf haq31 hsq31
  obtain rfl := Eq.symm hf
  clear haq30 hsq30 aq30 wq30
  refine wpList_nil ?_
  replace haq31 := haq31.pick' (L' := [(0, .int .u64 p0x), (1, .int .u64 p1y), (6, .int .u64 (andU p0x 4294967295)), (7, .int .u64 (shrI p0x 32)), (9, .int .u64 (shrI p1y 32)), (12, .int .u64 (andU (IntKind.u64.wrap ((IntKind.u64.wrap ((shrI p0x 32) * (andU p1y 4294967295))) + (shrI (IntKind.u64.wrap ((andU p0x 4294967295) * (andU p1y 4294967295))) 32))) 4294967295)), (13, .int .u64 (shrI (IntKind.u64.wrap ((IntKind.u64.wrap ((shrI p0x 32) * (andU p1y 4294967295))) + (shrI (IntKind.u64.wrap ((andU p0x 4294967295) * (andU p1y 4294967295))) 32))) 32))]) ⟨rfl, rfl, rfl, rfl, rfl, rfl, rfl, trivial⟩
  refine nrm ?_
  refine wp_seq ?_
  refine wp_region_lit ?_
  refine seq_op0 haq31 hsq31 (opT_move (v := .int .u64 (andU (IntKind.u64.wrap ((IntKind.u64.wrap ((shrI p0x 32) * (andU p1y 4294967295))) + (shrI (IntKind.u64.wrap ((andU p0x 4294967295) * (andU p1y 4294967295))) 32))) 4294967295)) rfl rfl) rfl rfl ?_
  rintro u aq32 wq32 hf haq32 hsq32
  obtain rfl := Eq.symm hf
  clear haq31 hsq31 aq31 wq31
  refine seq_op0 haq32 hsq32 (opT_move (v := .int .u64 (andU p0x 4294967295)) rfl rfl) rfl rfl ?_
  rintro u aq33 wq33 hf haq33 hsq33
  obtain rfl := Eq.symm hf
  clear haq32 hsq32 aq32 wq32
  refine seq_op0 haq33 hsq33 (opT_move (v := .int .u64 (shrI p1y 32)) rfl rfl) rfl rfl ?_
  rintro u aq34 wq34 hf haq34 hsq34
  obtain rfl := Eq.symm hf
  clear haq33 hsq33 aq33 wq33
  refine seq_op0 haq34 hsq34 (opU_mul (m := andU p0x 4294967295) (n := shrI p1y 32) rfl rfl rfl) rfl rfl ?_
  rintro u aq35 wq35 hf haq35 hsq35
  obtain rfl := Eq.symm hf
  clear haq34 hsq34 aq34 wq34
  refine seq_op0 haq35 hsq35 (opU_add (m := andU (IntKind.u64.wrap ((IntKind.u64.wrap ((shrI p0x 32) * (andU p1y 4294967295))) + (shrI (IntKind.u64.wrap ((andU p0x 4294967295) * (andU p1y 4294967295))) 32))) 4294967295) (n := IntKind.u64.wrap ((andU p0x 4294967295) * (shrI p1y 32))) rfl rfl rfl) rfl rfl ?_
  rintro u aq36 wq36 hf haq36 hsq36
  obtain rfl := Eq.symm hf
  clear haq35 hsq35 aq35 wq35
  refine seq_op0 haq36 hsq36 (opT_assign (v := .int .u64 (IntKind.u64.wrap ((andU (IntKind.u64.wrap ((IntKind.u64.wrap ((shrI p0x 32) * (andU p1y 4294967295))) + (shrI (IntKind.u64.wrap ((andU p0x 4294967295) * (andU p1y 4294967295))) 32))) 4294967295) + (IntKind.u64.wrap ((andU p0x 4294967295) * (shrI p1y 32)))))) rfl rfl) rfl rfl ?_
  rintro u aq37 wq37 hf haq37 hsq37
  obtain rfl := Eq.symm hf
  clear haq36 hsq36 aq36 wq36
  refine wpList_nil ?_
  replace haq37 := haq37.pick' (L' := [(0, .int .u64 p0x), (1, .int .u64 p1y), (7, .int .u64 (shrI p0x 32)), (9, .int .u64 (shrI p1y 32)), (12, .int .u64 (IntKind.u64.wrap ((andU (IntKind.u64.wrap ((IntKind.u64.wrap ((shrI p0x 32) * (andU p1y 4294967295))) + (shrI (IntKind.u64.wrap ((andU p0x 4294967295) * (andU p1y 4294967295))) 32))) 4294967295) + (IntKind.u64.wrap ((andU p0x 4294967295) * (shrI p1y 32)))))), (13, .int .u64 (shrI (IntKind.u64.wrap ((IntKind.u64.wrap ((shrI p0x 32) * (andU p1y 4294967295))) + (shrI (IntKind.u64.wrap ((andU p0x 4294967295) * (andU p1y 4294967295))) 32))) 32))]) ⟨rfl, rfl, rfl, rfl, rfl, rfl, trivial⟩
  refine nrm ?_
  refine wp_seq ?_
  refine wp_region_lit ?_
  refine seq_op0 haq37 hsq37 (opT_move (v := .int .u64 (shrI p0x 32)) rfl rfl) rfl rfl ?_
  rintro u aq38 wq38 hf haq38 hsq38
  obtain rfl := Eq.symm hf
  clear haq37 hsq37 aq37 wq37
  refine seq_op0 haq38 hsq38 (opT_move (v := .int .u64 (shrI p1y 32)) rfl rfl) rfl rfl ?_
  rintro u aq39 wq39 hf haq39 hsq39
  obtain rfl := Eq.symm hf
  clear haq38 hsq38 aq38 wq38
  refine seq_op0 haq39 hsq39 (opU_mul (m := shrI p0x 32) (n := shrI p1y 32) rfl rfl rfl) rfl rfl ?_
  rintro u aq40 wq40 hf haq40 hsq40
  obtain rfl := Eq.symm hf
  clear haq39 hsq39 aq39 wq39
  refine seq_op0 haq40 hsq40 (opT_move (v := .int .u64 (shrI (IntKind.u64.wrap ((IntKind.u64.wrap ((shrI p0x 32) * (andU p1y 4294967295))) + (shrI (IntKind.u64.wrap ((andU p0x 4294967295) * (andU p1y 4294967295))) 32))) 32)) rfl rfl) rfl rfl ?_
  rintro u aq41 wq41 hf haq41 hsq41
  obtain rfl := Eq.symm hf
  clear haq40 hsq40 aq40 wq40
  refine seq_op0 haq41 hsq41 (opU_add (m := IntKind.u64.wrap ((shrI p0x 32) * (shrI p1y 32))) (n := shrI (IntKind.u64.wrap ((IntKind.u64.wrap ((shrI p0x 32) * (andU p1y 4294967295))) + (shrI (IntKind.u64.wrap ((andU p0x 4294967295) * (andU p1y 4294967295))) 32))) 32) rfl rfl rfl) rfl rfl ?_
  rintro u aq42 wq42 hf haq42 hsq42
  obtain rfl := Eq.symm hf
  clear haq41 hsq41 aq41 wq41
  refine seq_op0 haq42 hsq42 (opT_move (v := .int .u64 (IntKind.u64.wrap ((andU (IntKind.u64.wrap ((IntKind.u64.wrap ((shrI p0x 32) * (andU p1y 4294967295))) + (shrI (IntKind.u64.wrap ((andU p0x 4294967295) * (andU p1y 4294967295))) 32))) 4294967295) + (IntKind.u64.wrap ((andU p0x 4294967295) * (shrI p1y 32)))))) rfl rfl) rfl rfl ?_
  rintro u aq43 wq43 hf haq43 hsq43
  obtain rfl := Eq.symm hf
  clear haq42 hsq42 aq42 wq42
  refine seq_op0 haq43 hsq43 (opU_shr (m := IntKind.u64.wrap ((andU (IntKind.u64.wrap ((IntKind.u64.wrap ((shrI p0x 32) * (andU p1y 4294967295))) + (shrI (IntKind.u64.wrap ((andU p0x 4294967295) * (andU p1y 4294967295))) 32))) 4294967295) + (IntKind.u64.wrap ((andU p0x 4294967295) * (shrI p1y 32))))) (n := 32) rfl rfl rfl (by decide)) rfl rfl ?_
  rintro u aq44 wq44 hf haq44 hsq44
  obtain rfl := Eq.symm hf
  clear haq43 hsq43 aq43 wq43
  refine seq_op0 haq44 hsq44 (opU_add (m := IntKind.u64.wrap ((IntKind.u64.wrap ((shrI p0x 32) * (shrI p1y 32))) + (shrI (IntKind.u64.wrap ((IntKind.u64.wrap ((shrI p0x 32) * (andU p1y 4294967295))) + (shrI (IntKind.u64.wrap ((andU p0x 4294967295) * (andU p1y 4294967295))) 32))) 32))) (n := shrI (IntKind.u64.wrap ((andU (IntKind.u64.wrap ((IntKind.u64.wrap ((shrI p0x 32) * (andU p1y 4294967295))) + (shrI (IntKind.u64.wrap ((andU p0x 4294967295) * (andU p1y 4294967295))) 32))) 4294967295) + (IntKind.u64.wrap ((andU p0x 4294967295) * (shrI p1y 32))))) 32) rfl rfl rfl) rfl rfl ?_
  rintro u aq45 wq45 hf haq45 hsq45
  obtain rfl := Eq.symm hf
  clear haq44 hsq44 aq44 wq44
  refine seq_op0 haq45 hsq45 (opT_assign (v := .int .u64 (IntKind.u64.wrap ((IntKind.u64.wrap ((IntKind.u64.wrap ((shrI p0x 32) * (shrI p1y 32))) + (shrI (IntKind.u64.wrap ((IntKind.u64.wrap ((shrI p0x 32) * (andU p1y 4294967295))) + (shrI (IntKind.u64.wrap ((andU p0x 4294967295) * (andU p1y 4294967295))) 32))) 32))) + (shrI (IntKind.u64.wrap ((andU (IntKind.u64.wrap ((IntKind.u64.wrap ((shrI p0x 32) * (andU p1y 4294967295))) + (shrI (IntKind.u64.wrap ((andU p0x 4294967295) * (andU p1y 4294967295))) 32))) 4294967295) + (IntKind.u64.wrap ((andU p0x 4294967295) * (shrI p1y 32))))) 32)))) rfl rfl) rfl rfl ?_
  rintro u aq46 wq46 hf haq46 hsq46
  obtain rfl := Eq.symm hf
  clear haq45 hsq45 aq45 wq45
  refine wpList_nil ?_
  replace haq46 := haq46.pick' (L' := [(0, .int .u64 p0x), (1, .int .u64 p1y), (4, .int .u64 (IntKind.u64.wrap ((IntKind.u64.wrap ((IntKind.u64.wrap ((shrI p0x 32) * (shrI p1y 32))) + (shrI (IntKind.u64.wrap ((IntKind.u64.wrap ((shrI p0x 32) * (andU p1y 4294967295))) + (shrI (IntKind.u64.wrap ((andU p0x 4294967295) * (andU p1y 4294967295))) 32))) 32))) + (shrI (IntKind.u64.wrap ((andU (IntKind.u64.wrap ((IntKind.u64.wrap ((shrI p0x 32) * (andU p1y 4294967295))) + (shrI (IntKind.u64.wrap ((andU p0x 4294967295) * (andU p1y 4294967295))) 32))) 4294967295) + (IntKind.u64.wrap ((andU p0x 4294967295) * (shrI p1y 32))))) 32))))]) ⟨rfl, rfl, rfl, trivial⟩
  refine nrm ?_
  refine wp_seq ?_
  refine wp_region_lit ?_
  refine seq_op0 haq46 hsq46 (opT_move (v := .int .u64 p0x) rfl rfl) rfl rfl ?_
  rintro u aq47 wq47 hf haq47 hsq47
  obtain rfl := Eq.symm hf
  clear haq46 hsq46 aq46 wq46
  refine seq_op0 haq47 hsq47 (opT_move (v := .int .u64 p1y) rfl rfl) rfl rfl ?_
  rintro u aq48 wq48 hf haq48 hsq48
  obtain rfl := Eq.symm hf
  clear haq47 hsq47 aq47 wq47
  refine seq_op0 haq48 hsq48 (opU_mul (m := p0x) (n := p1y) rfl rfl rfl) rfl rfl ?_
  rintro u aq49 wq49 hf haq49 hsq49
  obtain rfl := Eq.symm hf
  clear haq48 hsq48 aq48 wq48
  refine seq_op0 haq49 hsq49 (opT_assign (v := .int .u64 (IntKind.u64.wrap (p0x * p1y))) rfl rfl) rfl rfl ?_
  rintro u aq50 wq50 hf haq50 hsq50
  obtain rfl := Eq.symm hf
  clear haq49 hsq49 aq49 wq49
  refine wpList_nil ?_
  replace haq50 := haq50.pick' (L' := [(4, .int .u64 (IntKind.u64.wrap ((IntKind.u64.wrap ((IntKind.u64.wrap ((shrI p0x 32) * (shrI p1y 32))) + (shrI (IntKind.u64.wrap ((IntKind.u64.wrap ((shrI p0x 32) * (andU p1y 4294967295))) + (shrI (IntKind.u64.wrap ((andU p0x 4294967295) * (andU p1y 4294967295))) 32))) 32))) + (shrI (IntKind.u64.wrap ((andU (IntKind.u64.wrap ((IntKind.u64.wrap ((shrI p0x 32) * (andU p1y 4294967295))) + (shrI (IntKind.u64.wrap ((andU p0x 4294967295) * (andU p1y 4294967295))) 32))) 4294967295) + (IntKind.u64.wrap ((andU p0x 4294967295) * (shrI p1y 32))))) 32)))), (5, .int .u64 (IntKind.u64.wrap (p0x * p1y)))]) ⟨rfl, rfl, trivial⟩
  refine nrm ?_
  refine wp_ret ?_
  obtain rfl := Option.some.inj hm
  exact ret_2 haq50 rfl (res_tmp haq50 rfl) (res_tmp haq50 rfl) ⟨_, rfl, rfl, _, Hp.le.rfl, St.sel (hsq50) 1 [0] rfl rfl⟩
set_option maxHeartbeats 8000000 in
theorem c_s_l12Key (p0a : Int × (List Bool) × (List (List Int))) (p1classes : List Int) (p2s : Int) (r : List Int) (hm : m_s_l12Key p0a p1classes p2s = some r) {I : Hp} {w0 : World} (va0 : Value) (va1 : Value) (va2 : Value) (ra0 : (rSlice 4 rBool).rd I [va0] p0a.2.1) (ra1 : (rSlice 34 (rSlice 3 rInt)).rd I [va1] p0a.2.2) (ra2 : (rSlice 3 rInt).rd I [va2] p1classes) : Con Try.prog 150 #[.agg #[.int .i64 p0a.1, va0, va1], va2, .int .i64 p2s] I w0 [] (fun v => True) (fun v => [Ch.own (rSlice 3 rInt) [v] r]) := by
  refine con_of_wp (n := 40) [(0, .agg #[.int .i64 p0a.1, va0, va1]), (1, va2), (2, .int .i64 p2s)] Try.func150 rfl rfl (Nat.le_of_ble_eq_true rfl) (args_all ⟨rfl, rfl, rfl, trivial⟩) (fun F w a ha hs => ?_) (fun v => ⟨dp_own (dp_slice dp_int), trivial⟩)
  unfold m_s_l12Key at hm
  refine wp_seq ?_
  refine wp_region_lit ?_
  refine seq_op ha hs rfl (opT_box (u := .agg #[.int .i64 p0a.1, va0, va1]) (l := [.int .i64 p0a.1, va0, va1]) rfl rfl rfl) (List.Perm.refl _) rfl ?_
  rintro _ aq1 wq1 ⟨g1, rfl⟩ haq1 (hsq1 : St I w0 wq1 [Ch.blk g1 [.int .i64 p0a.1, va0, va1] 27, F])
  clear ha hs a w
  refine seq_op0 haq1 hsq1 (opT_assign (v := .slice none 0 0) rfl rfl) rfl rfl ?_
  rintro u aq2 wq2 hf haq2 hsq2
  obtain rfl := Eq.symm hf
  clear haq1 hsq1 aq1 wq1
  refine wpList_nil ?_
  replace haq2 := haq2.pick' (L' := [(1, va2), (2, .int .i64 p2s), (3, .pointer (some ⟨g1, 0, none⟩))]) ⟨rfl, rfl, rfl, trivial⟩
  refine nrm ?_
  refine wp_seq ?_
  refine wp_region_lit ?_
  refine seq_op0 haq2 hsq2 (opT_move (v := va2) rfl rfl) rfl rfl ?_
  rintro u aq3 wq3 hf haq3 hsq3
  obtain rfl := Eq.symm hf
  clear haq2 hsq2 aq2 wq2
  refine seq_op0 haq3 hsq3 (opT_move (v := .int .i64 p2s) rfl rfl) rfl rfl ?_
  rintro u aq4 wq4 hf haq4 hsq4
  obtain rfl := Eq.symm hf
  clear haq3 hsq3 aq3 wq3
  obtain ⟨x1, e1, hm⟩ := bind_some hm
  refine seq_op0 haq4 hsq4 (opT_index_hd (xs := p1classes) (i := p2s) (n := 1) (Hd.of_rd ra2) Try.underlying34 ti3 rfl rfl rfl (getI_in e1)) rfl rfl ?_
  rintro u aq5 wq5 hf haq5 hsq5
  obtain rfl := Eq.symm hf
  clear haq4 hsq4 aq4 wq4
  refine seq_op0 haq5 hsq5 (opT_load_el (S := rInt) (xs := p1classes) (a := x1) (i := p2s) (k := 1) (off := 0) (f := fun (x : Int) => x) ra2 e1 Fld.self ti3 rfl rfl rfl rfl rfl) rfl rfl ?_
  rintro u aq6 wq6 hf haq6 hsq6
  obtain rfl := lds_one hf
  clear haq5 hsq5 aq5 wq5
  refine seq_op haq6 hsq6 rfl (opT_lit_cpy (E := 3) (R := rInt) (S := rInt) [(.int .i64 x1, [.int .i64 x1])] [x1] cpy_int (rd_all ⟨rfl, trivial⟩) Try.underlying34 tz3 (by decide) rfl (by decide) (by decide) rfl rfl rfl rfl (us_all ⟨⟨rfl, rfl⟩, trivial⟩)) (List.Perm.refl _) rfl ?_
  rintro v1 aq7 wq7 - haq7 (hsq7 : St I w0 wq7 [Ch.own (rSlice 3 rInt) [v1] ([x1]), Ch.blk g1 [.int .i64 p0a.1, va0, va1] 27, F])
  clear haq6 hsq6 aq6 wq6
  refine seq_op0 haq7 hsq7 (opT_assign (v := v1) rfl rfl) rfl rfl ?_
  rintro u aq8 wq8 hf haq8 hsq8
  obtain rfl := Eq.symm hf
  clear haq7 hsq7 aq7 wq7
  refine wpList_nil ?_
  replace haq8 := haq8.pick' (L' := [(1, va2), (2, .int .i64 p2s), (3, .pointer (some ⟨g1, 0, none⟩)), (7, v1)]) ⟨rfl, rfl, rfl, rfl, trivial⟩
  refine nrm ?_
  refine wp_seq ?_
  refine wp_seq ?_
  refine wp_region_lit ?_
  refine seq_op0 haq8 hsq8 (opT_assign (v := .int .i64 0) rfl rfl) rfl rfl ?_
  rintro u aq9 wq9 hf haq9 hsq9
  obtain rfl := Eq.symm hf
  clear haq8 hsq8 aq8 wq8
  refine wpList_nil ?_
  replace haq9 := haq9.pick' (L' := [(1, va2), (2, .int .i64 p2s), (3, .pointer (some ⟨g1, 0, none⟩)), (7, v1), (8, .int .i64 0)]) ⟨rfl, rfl, rfl, rfl, rfl, trivial⟩
  refine nrm ?_
  obtain ⟨o3, hl1, hc3⟩ := bindL_some hm
  refine wp_cut (fun a w => ∃ s6 : (List Int) × Int, o3 = .brk s6 ∧ ∃ v25 : Value, Agr 40 a [(7, v25)] ∧ St I w0 w [Ch.own (rSlice 3 rInt) [v25] s6.1, F]) ?_ ?_
  · refine wp_block (wp_loopM (R := List Int) (S := (List Int) × Int) (fun s5 a w => ∃ v26 : Value, Agr 40 a [(1, va2), (2, .int .i64 p2s), (3, .pointer (some ⟨g1, 0, none⟩)), (7, v26), (8, .int .i64 s5.2)] ∧ St I w0 w [Ch.own (rSlice 3 rInt) [v26] s5.1, Ch.blk g1 [.int .i64 p0a.1, va0, va1] 27, F]) hl1 ?_ ?_)
    · exact ⟨v1, haq9.pick' ⟨rfl, rfl, rfl, rfl, rfl, trivial⟩, St.sel hsq9 3 [0, 1, 2] rfl rfl⟩
    · rintro s5 o4 hm hf1 aq114 wq114 ⟨v26, haq114, hsq114⟩
      unfold m_s_l12Key_l0 at hm
      refine wp_seq ?_
      refine wp_seq ?_
      refine wp_region_lit ?_
      refine seq_op0 haq114 hsq114 (opT_move (v := .int .i64 s5.2) rfl rfl) rfl rfl ?_
      rintro u aq115 wq115 hf haq115 hsq115
      obtain rfl := Eq.symm hf
      clear haq114 hsq114 aq114 wq114
      refine seq_op0 haq115 hsq115 (opT_cmp (k := .i64) (m := s5.2) (n := 9) (c := decide (s5.2 < 9)) rfl rfl rfl rfl rfl) rfl rfl ?_
      rintro u aq116 wq116 hf haq116 hsq116
      obtain rfl := Eq.symm hf
      clear haq115 hsq115 aq115 wq115
      refine wpList_nil ?_
      replace haq116 := haq116.pick' (L' := [(1, va2), (2, .int .i64 p2s), (3, .pointer (some ⟨g1, 0, none⟩)), (7, v26), (8, .int .i64 s5.2), (16, .bool (decide (s5.2 < 9)))]) ⟨rfl, rfl, rfl, rfl, rfl, rfl, trivial⟩
      refine nrm ?_
      rcases two (decide (s5.2 < 9)) with hb7 | hb7
      · replace hm := ifFe hb7 hm
        refine cnd_false (b := decide (s5.2 < 9)) haq116 rfl rfl hb7 ?_
        refine wp_exit ?_
        refine thenX ?_
        refine thenX ?_
        refine ex_in ?_
        refine nrm ?_
        exact ⟨_, loopBrk hm hf1, ⟨v26, haq116.pick' ⟨rfl, trivial⟩, St.sel hsq116 3 [0, 2] rfl rfl⟩⟩
      · replace hm := ifTe hb7 hm
        refine cnd_true (b := decide (s5.2 < 9)) haq116 rfl rfl hb7 ?_
        refine wp_skip ?_
        refine nrm ?_
        obtain ⟨s7, hj3, hm⟩ := bind_some hm
        refine wp_seq_cut (fun a w => ∃ v32 : Value, Agr 40 a [(1, va2), (2, .int .i64 p2s), (3, .pointer (some ⟨g1, 0, none⟩)), (7, v32), (8, .int .i64 s5.2)] ∧ St I w0 w [Ch.own (rSlice 3 rInt) [v32] s7, Ch.blk g1 [.int .i64 p0a.1, va0, va1] 27, F]) ?_ ?_
        · replace hm := hj3
          refine wp_block ?_
          refine wp_seq ?_
          refine wp_region_lit ?_
          refine seq_op0 haq116 hsq116 (opT_field_addr (g := g1) (b := 0) tf27_2 rfl rfl) rfl rfl ?_
          rintro u aq140 wq140 hf haq140 hsq140
          obtain rfl := Eq.symm hf
          clear haq116 hsq116 aq116 wq116
          refine seq_op haq140 hsq140 rfl (opT_load_blk (g := g1) (off := 2) (E := 27) (l := [.int .i64 p0a.1, va0, va1]) (d := [va1]) (u := va1) ti23 rfl rfl rfl rfl rfl rfl) (perm_front (i := 1) rfl) rfl ?_
          rintro u aq141 wq141 hf haq141 (hsq141 : St I w0 wq141 [Ch.blk g1 [.int .i64 p0a.1, va0, va1] 27, Ch.own (rSlice 3 rInt) [v26] s5.1, F])
          obtain rfl := Eq.symm hf
          clear haq140 hsq140 aq140 wq140
          refine seq_op0 haq141 hsq141 (opT_move (v := .int .i64 p2s) rfl rfl) rfl rfl ?_
          rintro u aq142 wq142 hf haq142 hsq142
          obtain rfl := Eq.symm hf
          clear haq141 hsq141 aq141 wq141
          obtain ⟨x17, e27, hm⟩ := bind_some hm
          refine seq_op0 haq142 hsq142 (opT_index_hd (xs := p0a.2.2) (i := p2s) (n := 1) (Hd.of_rd ra1) Try.underlying23 ti34 rfl rfl rfl (getI_in e27)) rfl rfl ?_
          rintro u aq143 wq143 hf haq143 hsq143
          obtain rfl := Eq.symm hf
          clear haq142 hsq142 aq142 wq142
          refine seq_op0 haq143 hsq143 (opT_load_el (S := rSlice 3 rInt) (xs := p0a.2.2) (a := x17) (i := p2s) (k := 1) (off := 0) (f := fun (x : List Int) => x) ra1 e27 Fld.self ti34 rfl rfl rfl rfl rfl) rfl rfl ?_
          rintro v33 aq144 wq144 hf haq144 hsq144
          have r6 := lds_sl hf
          clear hf
          clear haq143 hsq143 aq143 wq143
          refine seq_op0 haq144 hsq144 (opT_move (v := .int .i64 s5.2) rfl rfl) rfl rfl ?_
          rintro u aq145 wq145 hf haq145 hsq145
          obtain rfl := Eq.symm hf
          clear haq144 hsq144 aq144 wq144
          obtain ⟨x18, e28, hm⟩ := bind_some hm
          refine seq_op0 haq145 hsq145 (opT_index_hd (xs := x17) (i := s5.2) (n := 1) (Hd.of_rd r6) Try.underlying34 ti3 rfl rfl rfl (getI_in e28)) rfl rfl ?_
          rintro u aq146 wq146 hf haq146 hsq146
          obtain rfl := Eq.symm hf
          clear haq145 hsq145 aq145 wq145
          refine seq_op0 haq146 hsq146 (opT_load_el (S := rInt) (xs := x17) (a := x18) (i := s5.2) (k := 1) (off := 0) (f := fun (x : Int) => x) r6 e28 Fld.self ti3 rfl rfl rfl rfl rfl) rfl rfl ?_
          rintro u aq147 wq147 hf haq147 hsq147
          obtain rfl := lds_one hf
          clear haq146 hsq146 aq146 wq146
          refine seq_op0 haq147 hsq147 (opT_assign (v := .int .i64 x18) rfl rfl) rfl rfl ?_
          rintro u aq148 wq148 hf haq148 hsq148
          obtain rfl := Eq.symm hf
          clear haq147 hsq147 aq147 wq147
          refine wpList_nil ?_
          replace haq148 := haq148.pick' (L' := [(1, va2), (2, .int .i64 p2s), (3, .pointer (some ⟨g1, 0, none⟩)), (7, v26), (8, .int .i64 s5.2), (9, .int .i64 x18)]) ⟨rfl, rfl, rfl, rfl, rfl, rfl, trivial⟩
          refine nrm ?_
          refine wp_seq ?_
          refine wp_region_lit ?_
          refine seq_op0 haq148 hsq148 (opT_move (v := .int .i64 x18) rfl rfl) rfl rfl ?_
          rintro u aq149 wq149 hf haq149 hsq149
          obtain rfl := Eq.symm hf
          clear haq148 hsq148 aq148 wq148
          refine seq_op0 haq149 hsq149 (opT_cmp (k := .i64) (m := x18) (n := 0) (c := decide (x18 < 0)) rfl rfl rfl rfl rfl) rfl rfl ?_
          rintro u aq150 wq150 hf haq150 hsq150
          obtain rfl := Eq.symm hf
          clear haq149 hsq149 aq149 wq149
          refine wpList_nil ?_
          replace haq150 := haq150.pick' (L' := [(1, va2), (2, .int .i64 p2s), (3, .pointer (some ⟨g1, 0, none⟩)), (7, v26), (8, .int .i64 s5.2), (9, .int .i64 x18), (28, .bool (decide (x18 < 0)))]) ⟨rfl, rfl, rfl, rfl, rfl, rfl, rfl, trivial⟩
          refine nrm ?_
          rcases two (decide (x18 < 0)) with hb9 | hb9
          · replace hm := ifFe hb9 hm
            refine cnd_false (b := decide (x18 < 0)) haq150 rfl rfl hb9 ?_
            refine wp_region_lit ?_
            refine seq_op0 haq150 hsq150 (opT_move (v := v26) rfl rfl) rfl rfl ?_
            rintro u aq151 wq151 hf haq151 hsq151
            obtain rfl := Eq.symm hf
            clear haq150 hsq150 aq150 wq150
            refine seq_op0 haq151 hsq151 (opT_move (v := va2) rfl rfl) rfl rfl ?_
            rintro u aq152 wq152 hf haq152 hsq152
            obtain rfl := Eq.symm hf
            clear haq151 hsq151 aq151 wq151
            refine seq_op0 haq152 hsq152 (opT_move (v := .int .i64 x18) rfl rfl) rfl rfl ?_
            rintro u aq153 wq153 hf haq153 hsq153
            obtain rfl := Eq.symm hf
            clear haq152 hsq152 aq152 wq152
            obtain ⟨x19, e29, hm⟩ := bind_some hm
            refine seq_op0 haq153 hsq153 (opT_index_hd (xs := p1classes) (i := x18) (n := 1) (Hd.of_rd ra2) Try.underlying34 ti3 rfl rfl rfl (getI_in e29)) rfl rfl ?_
            rintro u aq154 wq154 hf haq154 hsq154
            obtain rfl := Eq.symm hf
            clear haq153 hsq153 aq153 wq153
            refine seq_op0 haq154 hsq154 (opT_load_el (S := rInt) (xs := p1classes) (a := x19) (i := x18) (k := 1) (off := 0) (f := fun (x : Int) => x) ra2 e29 Fld.self ti3 rfl rfl rfl rfl rfl) rfl rfl ?_
            rintro u aq155 wq155 hf haq155 hsq155
            obtain rfl := lds_one hf
            clear haq154 hsq154 aq154 wq154
            refine seq_op haq155 hsq155 rfl (opT_lit_cpy (E := 3) (R := rInt) (S := rInt) [(.int .i64 x19, [.int .i64 x19])] [x19] cpy_int (rd_all ⟨rfl, trivial⟩) Try.underlying34 tz3 (by decide) rfl (by decide) (by decide) rfl rfl rfl rfl (us_all ⟨⟨rfl, rfl⟩, trivial⟩)) (List.Perm.refl _) rfl ?_
            rintro v34 aq156 wq156 - haq156 (hsq156 : St I w0 wq156 [Ch.own (rSlice 3 rInt) [v34] ([x19]), Ch.blk g1 [.int .i64 p0a.1, va0, va1] 27, Ch.own (rSlice 3 rInt) [v26] s5.1, F])
            clear haq155 hsq155 aq155 wq155
            obtain ⟨z11, e30, hm⟩ := bind_some hm
            refine seq_op haq156 hsq156 rfl (opT_app (E := 3) (R := rInt) (s := v26) (u := v34) e30 Try.underlying34 tz3 rfl (by decide) rfl (by decide) rfl rfl rfl) (perm_sel [2, 0, 1, 3] (m := 4) rfl rfl) rfl ?_
            rintro v35 aq157 wq157 - haq157 (hsq157 : St I w0 wq157 [Ch.own (rSlice 3 rInt) [v35] z11, Ch.blk g1 [.int .i64 p0a.1, va0, va1] 27, F])
            clear haq156 hsq156 aq156 wq156
            refine seq_op0 haq157 hsq157 (opT_assign (v := v35) rfl rfl) rfl rfl ?_
            rintro u aq158 wq158 hf haq158 hsq158
            obtain rfl := Eq.symm hf
            clear haq157 hsq157 aq157 wq157
            refine wpList_nil ?_
            replace haq158 := haq158.pick' (L' := [(1, va2), (2, .int .i64 p2s), (3, .pointer (some ⟨g1, 0, none⟩)), (7, v35), (8, .int .i64 s5.2)]) ⟨rfl, rfl, rfl, rfl, rfl, trivial⟩
            refine nrmB ?_
            refine nrm ?_
            obtain rfl := Option.some.inj hm
            exact ⟨v35, haq158.pick' ⟨rfl, rfl, rfl, rfl, rfl, trivial⟩, St.sel hsq158 3 [0, 1, 2] rfl rfl⟩
          · replace hm := ifTe hb9 hm
            refine cnd_true (b := decide (x18 < 0)) haq150 rfl rfl hb9 ?_
            refine wp_region_lit ?_
            refine seq_op0 haq150 hsq150 (opT_move (v := v26) rfl rfl) rfl rfl ?_
            rintro u aq159 wq159 hf haq159 hsq159
            obtain rfl := Eq.symm hf
            clear haq150 hsq150 aq150 wq150
            refine seq_op haq159 hsq159 rfl (opT_lit_cpy (E := 3) (R := rInt) (S := rInt) [(.int .i64 (-1), [.int .i64 (-1)])] [-1] cpy_int (rd_all ⟨rfl, trivial⟩) Try.underlying34 tz3 (by decide) rfl (by decide) (by decide) rfl rfl rfl rfl (us_all ⟨⟨rfl, rfl⟩, trivial⟩)) (List.Perm.refl _) rfl ?_
            rintro v36 aq160 wq160 - haq160 (hsq160 : St I w0 wq160 [Ch.own (rSlice 3 rInt) [v36] ([-1]), Ch.blk g1 [.int .i64 p0a.1, va0, va1] 27, Ch.own (rSlice 3 rInt) [v26] s5.1, F])
            clear haq159 hsq159 aq159 wq159
            obtain ⟨z12, e31, hm⟩ := bind_some hm
            refine seq_op haq160 hsq160 rfl (opT_app (E := 3) (R := rInt) (s := v26) (u := v36) e31 Try.underlying34 tz3 rfl (by decide) rfl (by decide) rfl rfl rfl) (perm_sel [2, 0, 1, 3] (m := 4) rfl rfl) rfl ?_
            rintro v37 aq161 wq161 - haq161 (hsq161 : St I w0 wq161 [Ch.own (rSlice 3 rInt) [v37] z12, Ch.blk g1 [.int .i64 p0a.1, va0, va1] 27, F])
            clear haq160 hsq160 aq160 wq160
            refine seq_op0 haq161 hsq161 (opT_assign (v := v37) rfl rfl) rfl rfl ?_
            rintro u aq162 wq162 hf haq162 hsq162
            obtain rfl := Eq.symm hf
            clear haq161 hsq161 aq161 wq161
            refine wpList_nil ?_
            replace haq162 := haq162.pick' (L' := [(1, va2), (2, .int .i64 p2s), (3, .pointer (some ⟨g1, 0, none⟩)), (7, v37), (8, .int .i64 s5.2)]) ⟨rfl, rfl, rfl, rfl, rfl, trivial⟩
            refine nrmB ?_
            refine nrm ?_
            obtain rfl := Option.some.inj hm
            exact ⟨v37, haq162.pick' ⟨rfl, rfl, rfl, rfl, rfl, trivial⟩, St.sel hsq162 3 [0, 1, 2] rfl rfl⟩
        · rintro aq163 wq163 ⟨v32, haq163, hsq163⟩
          refine wp_region_lit ?_
          refine seq_op0 haq163 hsq163 (opT_move (v := .int .i64 s5.2) rfl rfl) rfl rfl ?_
          rintro u aq164 wq164 hf haq164 hsq164
          obtain rfl := Eq.symm hf
          clear haq163 hsq163 aq163 wq163
          refine seq_op0 haq164 hsq164 (opT_add (m := s5.2) (n := 1) rfl rfl rfl) rfl rfl ?_
          rintro u aq165 wq165 hf haq165 hsq165
          obtain rfl := Eq.symm hf
          clear haq164 hsq164 aq164 wq164
          refine seq_op0 haq165 hsq165 (opT_assign (v := .int .i64 (IntKind.i64.wrap (s5.2 + 1))) rfl rfl) rfl rfl ?_
          rintro u aq166 wq166 hf haq166 hsq166
          obtain rfl := Eq.symm hf
          clear haq165 hsq165 aq165 wq165
          refine wpList_nil ?_
          replace haq166 := haq166.pick' (L' := [(1, va2), (2, .int .i64 p2s), (3, .pointer (some ⟨g1, 0, none⟩)), (7, v32), (8, .int .i64 (IntKind.i64.wrap (s5.2 + 1)))]) ⟨rfl, rfl, rfl, rfl, rfl, trivial⟩
          refine nrm ?_
          exact ⟨_, (Option.some.inj hm).symm, ⟨v32, haq166.pick' ⟨rfl, rfl, rfl, rfl, rfl, trivial⟩, St.sel hsq166 3 [0, 1, 2] rfl rfl⟩⟩
  · rintro aq167 wq167 ⟨s6, ho4, v25, haq167, hsq167⟩
    replace hm := loopOut ho4 hc3
    clear ho4 hc3 hl1
    refine nrm ?_
    refine wp_seq ?_
    refine wp_region_lit ?_
    refine seq_op0 haq167 hsq167 (opT_move (v := v25) rfl rfl) rfl rfl ?_
    rintro u aq168 wq168 hf haq168 hsq168
    obtain rfl := Eq.symm hf
    clear haq167 hsq167 aq167 wq167
    refine seq_op0 haq168 hsq168 (opT_assign (v := v25) rfl rfl) rfl rfl ?_
    rintro u aq169 wq169 hf haq169 hsq169
    obtain rfl := Eq.symm hf
    clear haq168 hsq168 aq168 wq168
    refine wpList_nil ?_
    replace haq169 := haq169.pick' (L' := [(6, v25)]) ⟨rfl, trivial⟩
    refine nrm ?_
    refine wp_ret ?_
    obtain rfl := Option.some.inj hm
    exact ret_1 haq169 rfl (res_tmp haq169 rfl) ⟨_, rfl, trivial, _, Hp.le.rfl, St.sel (hsq169) 2 [0, 1] rfl rfl⟩
set_option maxHeartbeats 8000000 in
theorem c_g_slices_EqualFunc_S_S_int_S_S_int_S_int_S_int (p0s1 : List (List Int)) (p1s2 : List (List Int)) (p2eq : (List Int) → (List Int) → Option Bool) (r : Bool) (hm : m_g_slices_EqualFunc_S_S_int_S_S_int_S_int_S_int p0s1 p1s2 p2eq = some r) {I : Hp} {w0 : World} (va0 : Value) (va1 : Value) (va2 : Value) (ra0 : (rSlice 34 (rSlice 3 rInt)).rd I [va0] p0s1) (ra1 : (rSlice 34 (rSlice 3 rInt)).rd I [va1] p1s2) (ra2 : fn96 w0 I va2 p2eq) : Con Try.prog 107 #[va0, va1, va2] I w0 [] (fun v => v = .bool r) (fun v => []) := by
  refine con_of_wp (n := 32) [(0, va0), (1, va1), (2, va2)] Try.func107 rfl rfl (Nat.le_of_ble_eq_true rfl) (args_all ⟨rfl, rfl, rfl, trivial⟩) (fun F w a ha hs => ?_) (fun v => trivial)
  unfold m_g_slices_EqualFunc_S_S_int_S_S_int_S_int_S_int at hm
  refine wp_seq ?_
  refine wp_region_lit ?_
  refine seq_op0 ha hs (opT_assign (v := .bool false) rfl rfl) rfl rfl ?_
  rintro u aq1 wq1 hf haq1 hsq1
  obtain rfl := Eq.symm hf
  clear ha hs a w
  refine wpList_nil ?_
  replace haq1 := haq1.pick' (L' := [(0, va0), (1, va1), (2, va2)]) ⟨rfl, rfl, rfl, trivial⟩
  refine nrm ?_
  refine wp_seq ?_
  refine wp_seq ?_
  refine wp_region_lit ?_
  refine seq_op0 haq1 hsq1 (opT_move (v := va0) rfl rfl) rfl rfl ?_
  rintro u aq2 wq2 hf haq2 hsq2
  obtain rfl := Eq.symm hf
  clear haq1 hsq1 aq1 wq1
  refine seq_op0 haq2 hsq2 (opT_len_hd (v := va0) (n := p0s1.length) (Hd.of_rd ra0) Try.underlying23 rfl rfl) rfl rfl ?_
  rintro u aq3 wq3 hf haq3 hsq3
  obtain rfl := Eq.symm hf
  clear haq2 hsq2 aq2 wq2
  refine seq_op0 haq3 hsq3 (opT_move (v := va1) rfl rfl) rfl rfl ?_
  rintro u aq4 wq4 hf haq4 hsq4
  obtain rfl := Eq.symm hf
  clear haq3 hsq3 aq3 wq3
  refine seq_op0 haq4 hsq4 (opT_len_hd (v := va1) (n := p1s2.length) (Hd.of_rd ra1) Try.underlying23 rfl rfl) rfl rfl ?_
  rintro u aq5 wq5 hf haq5 hsq5
  obtain rfl := Eq.symm hf
  clear haq4 hsq4 aq4 wq4
  refine seq_op0 haq5 hsq5 (opT_cmp (k := .i64) (m := (p0s1.length : Int)) (n := (p1s2.length : Int)) (c := (p0s1.length : Int) != (p1s2.length : Int)) rfl rfl rfl rfl rfl) rfl rfl ?_
  rintro u aq6 wq6 hf haq6 hsq6
  obtain rfl := Eq.symm hf
  clear haq5 hsq5 aq5 wq5
  refine wpList_nil ?_
  replace haq6 := haq6.pick' (L' := [(0, va0), (1, va1), (2, va2), (14, .bool ((p0s1.length : Int) != (p1s2.length : Int)))]) ⟨rfl, rfl, rfl, rfl, trivial⟩
  refine nrm ?_
  rcases two ((p0s1.length : Int) != (p1s2.length : Int)) with hb1 | hb1
  · replace hm := ifFe hb1 hm
    refine cnd_false (b := (p0s1.length : Int) != (p1s2.length : Int)) haq6 rfl rfl hb1 ?_
    refine wp_skip ?_
    refine nrm ?_
    refine wp_seq ?_
    refine wp_seq ?_
    refine wp_region_lit ?_
    refine seq_op0 haq6 hsq6 (opT_move (v := va0) rfl rfl) rfl rfl ?_
    rintro u aq7 wq7 hf haq7 hsq7
    obtain rfl := Eq.symm hf
    clear haq6 hsq6 aq6 wq6
    refine seq_op0 haq7 hsq7 (opT_len_hd (v := va0) (n := p0s1.length) (Hd.of_rd ra0) Try.underlying23 rfl rfl) rfl rfl ?_
    rintro u aq8 wq8 hf haq8 hsq8
    obtain rfl := Eq.symm hf
    clear haq7 hsq7 aq7 wq7
    refine seq_op0 haq8 hsq8 (opT_move (v := .int .i64 0) rfl rfl) rfl rfl ?_
    rintro u aq9 wq9 hf haq9 hsq9
    obtain rfl := Eq.symm hf
    clear haq8 hsq8 aq8 wq8
    refine wpList_nil ?_
    replace haq9 := haq9.pick' (L' := [(1, va1), (2, va2), (15, va0), (16, .int .i64 (p0s1.length : Int)), (17, .int .i64 0)]) ⟨rfl, rfl, rfl, rfl, rfl, trivial⟩
    refine nrm ?_
    obtain ⟨o1, hl1, hc1⟩ := bindL_some hm
    refine wp_cut (fun a w => ∃ s4 : Int, o1 = .brk s4 ∧ Agr 32 a [] ∧ St I w0 w [F]) ?_ ?_
    · refine wp_block (wp_loopM (R := Bool) (S := Int) (fun s3 a w => Agr 32 a [(1, va1), (2, va2), (15, va0), (16, .int .i64 (p0s1.length : Int)), (17, .int .i64 s3)] ∧ St I w0 w [F]) hl1 ?_ ?_)
      · exact ⟨haq9.pick' ⟨rfl, rfl, rfl, rfl, rfl, trivial⟩, St.sel hsq9 1 [0] rfl rfl⟩
      · rintro s3 o2 hm hf1 aq48 wq48 ⟨haq48, hsq48⟩
        unfold m_g_slices_EqualFunc_S_S_int_S_S_int_S_int_S_int_l0 at hm
        refine wp_seq ?_
        refine wp_region_lit ?_
        refine seq_op0 haq48 hsq48 (opT_cmp (k := .i64) (m := s3) (n := (p0s1.length : Int)) (c := decide (s3 < (p0s1.length : Int))) rfl rfl rfl rfl rfl) rfl rfl ?_
        rintro u aq49 wq49 hf haq49 hsq49
        obtain rfl := Eq.symm hf
        clear haq48 hsq48 aq48 wq48
        refine wpList_nil ?_
        replace haq49 := haq49.pick' (L' := [(1, va1), (2, va2), (15, va0), (16, .int .i64 (p0s1.length : Int)), (17, .int .i64 s3), (18, .bool (decide (s3 < (p0s1.length : Int))))]) ⟨rfl, rfl, rfl, rfl, rfl, rfl, trivial⟩
        refine nrm ?_
        refine wp_seq ?_
        rcases two (decide (s3 < (p0s1.length : Int))) with hb6 | hb6
        · replace hm := ifFe hb6 hm
          refine cnd_false (b := decide (s3 < (p0s1.length : Int))) haq49 rfl rfl hb6 ?_
          refine wp_exit ?_
          refine thenX ?_
          refine thenX ?_
          refine ex_in ?_
          refine nrm ?_
          exact ⟨_, loopBrk hm hf1, ⟨haq49.pick' trivial, St.sel hsq49 1 [0] rfl rfl⟩⟩
        · replace hm := ifTe hb6 hm
          refine cnd_true (b := decide (s3 < (p0s1.length : Int))) haq49 rfl rfl hb6 ?_
          refine wp_skip ?_
          refine nrm ?_
          refine wp_seq ?_
          refine wp_block ?_
          refine wp_seq ?_
          refine wp_region_lit ?_
          refine seq_op0 haq49 hsq49 (opT_move (v := .int .i64 s3) rfl rfl) rfl rfl ?_
          rintro u aq50 wq50 hf haq50 hsq50
          obtain rfl := Eq.symm hf
          clear haq49 hsq49 aq49 wq49
          obtain ⟨x5, e7, hm⟩ := bind_some hm
          refine seq_op0 haq50 hsq50 (opT_index_hd (xs := p0s1) (i := s3) (n := 1) (Hd.of_rd ra0) Try.underlying23 ti34 rfl rfl rfl (getI_in e7)) rfl rfl ?_
          rintro u aq51 wq51 hf haq51 hsq51
          obtain rfl := Eq.symm hf
          clear haq50 hsq50 aq50 wq50
          refine seq_op0 haq51 hsq51 (opT_load_el (S := rSlice 3 rInt) (xs := p0s1) (a := x5) (i := s3) (k := 1) (off := 0) (f := fun (x : List Int) => x) ra0 e7 Fld.self ti34 rfl rfl rfl rfl rfl) rfl rfl ?_
          rintro v5 aq52 wq52 hf haq52 hsq52
          have r7 := lds_sl hf
          clear hf
          clear haq51 hsq51 aq51 wq51
          refine seq_op0 haq52 hsq52 (opT_assign (v := .int .i64 s3) rfl rfl) rfl rfl ?_
          rintro u aq53 wq53 hf haq53 hsq53
          obtain rfl := Eq.symm hf
          clear haq52 hsq52 aq52 wq52
          refine seq_op0 haq53 hsq53 (opT_assign (v := v5) rfl rfl) rfl rfl ?_
          rintro u aq54 wq54 hf haq54 hsq54
          obtain rfl := Eq.symm hf
          clear haq53 hsq53 aq53 wq53
          refine wpList_nil ?_
          replace haq54 := haq54.pick' (L' := [(1, va1), (2, va2), (7, .int .i64 s3), (8, v5), (15, va0), (16, .int .i64 (p0s1.length : Int)), (17, .int .i64 s3)]) ⟨rfl, rfl, rfl, rfl, rfl, rfl, rfl, trivial⟩
          refine nrm ?_
          refine wp_seq ?_
          refine wp_region_lit ?_
          refine seq_op0 haq54 hsq54 (opT_move (v := va1) rfl rfl) rfl rfl ?_
          rintro u aq55 wq55 hf haq55 hsq55
          obtain rfl := Eq.symm hf
          clear haq54 hsq54 aq54 wq54
          refine seq_op0 haq55 hsq55 (opT_move (v := .int .i64 s3) rfl rfl) rfl rfl ?_
          rintro u aq56 wq56 hf haq56 hsq56
          obtain rfl := Eq.symm hf
          clear haq55 hsq55 aq55 wq55
          obtain ⟨x6, e8, hm⟩ := bind_some hm
          refine seq_op0 haq56 hsq56 (opT_index_hd (xs := p1s2) (i := s3) (n := 1) (Hd.of_rd ra1) Try.underlying23 ti34 rfl rfl rfl (getI_in e8)) rfl rfl ?_
          rintro u aq57 wq57 hf haq57 hsq57
          obtain rfl := Eq.symm hf
          clear haq56 hsq56 aq56 wq56
          refine seq_op0 haq57 hsq57 (opT_load_el (S := rSlice 3 rInt) (xs := p1s2) (a := x6) (i := s3) (k := 1) (off := 0) (f := fun (x : List Int) => x) ra1 e8 Fld.self ti34 rfl rfl rfl rfl rfl) rfl rfl ?_
          rintro v6 aq58 wq58 hf haq58 hsq58
          have r8 := lds_sl hf
          clear hf
          clear haq57 hsq57 aq57 wq57
          refine seq_op0 haq58 hsq58 (opT_assign (v := v6) rfl rfl) rfl rfl ?_
          rintro u aq59 wq59 hf haq59 hsq59
          obtain rfl := Eq.symm hf
          clear haq58 hsq58 aq58 wq58
          refine wpList_nil ?_
          replace haq59 := haq59.pick' (L' := [(1, va1), (2, va2), (8, v5), (9, v6), (15, va0), (16, .int .i64 (p0s1.length : Int)), (17, .int .i64 s3)]) ⟨rfl, rfl, rfl, rfl, rfl, rfl, rfl, trivial⟩
          refine nrm ?_
          refine wp_seq ?_
          refine wp_region_lit ?_
          refine seq_op0 haq59 hsq59 (opT_move (v := va2) rfl rfl) rfl rfl ?_
          rintro u aq60 wq60 hf haq60 hsq60
          obtain rfl := Eq.symm hf
          clear haq59 hsq59 aq59 wq59
          refine seq_op0 haq60 hsq60 (opT_move (v := v5) rfl rfl) rfl rfl ?_
          rintro u aq61 wq61 hf haq61 hsq61
          obtain rfl := Eq.symm hf
          clear haq60 hsq60 aq60 wq60
          refine seq_op0 haq61 hsq61 (opT_move (v := v6) rfl rfl) rfl rfl ?_
          rintro u aq62 wq62 hf haq62 hsq62
          obtain rfl := Eq.symm hf
          clear haq61 hsq61 aq61 wq61
          obtain ⟨r9, e9, hm⟩ := bind_some hm
          refine seq_op0 haq62 hsq62 (opT_call_clo (v := va2) (args := [v5, v6]) (ra2.2 _ Hp.le.rfl x5 x6 _ e9 v5 v6 r7 r8) rfl rfl rfl) rfl rfl ?_
          rintro u aq63 wq63 hf haq63 hsq63
          obtain rfl := Eq.symm hf
          clear haq62 hsq62 aq62 wq62
          refine seq_op0 haq63 hsq63 (opT_not (b := r9) rfl rfl) rfl rfl ?_
          rintro u aq64 wq64 hf haq64 hsq64
          obtain rfl := Eq.symm hf
          clear haq63 hsq63 aq63 wq63
          refine wpList_nil ?_
          replace haq64 := haq64.pick' (L' := [(1, va1), (2, va2), (15, va0), (16, .int .i64 (p0s1.length : Int)), (17, .int .i64 s3), (30, .bool (!r9))]) ⟨rfl, rfl, rfl, rfl, rfl, rfl, trivial⟩
          refine nrm ?_
          rcases two (r9) with hb7 | hb7
          · replace hm := ifFe hb7 hm
            refine cnd_true (b := !r9) haq64 rfl rfl (notT hb7) ?_
            refine wp_seq ?_
            refine wp_region_lit ?_
            refine seq_op0 haq64 hsq64 (opT_assign (v := .bool false) rfl rfl) rfl rfl ?_
            rintro u aq65 wq65 hf haq65 hsq65
            obtain rfl := Eq.symm hf
            clear haq64 hsq64 aq64 wq64
            refine wpList_nil ?_
            replace haq65 := haq65.pick' (L' := [(6, .bool false)]) ⟨rfl, trivial⟩
            refine nrm ?_
            refine wp_ret ?_
            refine blkR ?_
            refine thenR ?_
            refine thenR ?_
            refine blkR ?_
            refine thenR ?_
            refine thenR ?_
            replace hm := loopRet hm hf1 hc1
            obtain rfl := Option.some.inj hm
            exact ret_1 haq65 rfl (res_tmp haq65 rfl) ⟨_, rfl, rfl, _, Hp.le.rfl, St.sel (hsq65) 1 [0] rfl rfl⟩
          · replace hm := ifTe hb7 hm
            refine cnd_false (b := !r9) haq64 rfl rfl (notF hb7) ?_
            refine wp_skip ?_
            refine nrmB ?_
            refine nrm ?_
            refine wp_region_lit ?_
            refine seq_op0 haq64 hsq64 (opT_add (m := s3) (n := 1) rfl rfl rfl) rfl rfl ?_
            rintro u aq66 wq66 hf haq66 hsq66
            obtain rfl := Eq.symm hf
            clear haq64 hsq64 aq64 wq64
            refine seq_op0 haq66 hsq66 (opT_move (v := .int .i64 (IntKind.i64.wrap (s3 + 1))) rfl rfl) rfl rfl ?_
            rintro u aq67 wq67 hf haq67 hsq67
            obtain rfl := Eq.symm hf
            clear haq66 hsq66 aq66 wq66
            refine wpList_nil ?_
            replace haq67 := haq67.pick' (L' := [(1, va1), (2, va2), (15, va0), (16, .int .i64 (p0s1.length : Int)), (17, .int .i64 (IntKind.i64.wrap (s3 + 1)))]) ⟨rfl, rfl, rfl, rfl, rfl, trivial⟩
            refine nrm ?_
            exact ⟨_, (Option.some.inj hm).symm, ⟨haq67.pick' ⟨rfl, rfl, rfl, rfl, rfl, trivial⟩, St.sel hsq67 1 [0] rfl rfl⟩⟩
    · rintro aq68 wq68 ⟨s4, ho1, haq68, hsq68⟩
      replace hm := loopOut ho1 hc1
      clear ho1 hc1 hl1
      refine nrm ?_
      refine wp_seq ?_
      refine wp_region_lit ?_
      refine seq_op0 haq68 hsq68 (opT_assign (v := .bool true) rfl rfl) rfl rfl ?_
      rintro u aq69 wq69 hf haq69 hsq69
      obtain rfl := Eq.symm hf
      clear haq68 hsq68 aq68 wq68
      refine wpList_nil ?_
      replace haq69 := haq69.pick' (L' := [(6, .bool true)]) ⟨rfl, trivial⟩
      refine nrm ?_
      refine wp_ret ?_
      obtain rfl := Option.some.inj hm
      exact ret_1 haq69 rfl (res_tmp haq69 rfl) ⟨_, rfl, rfl, _, Hp.le.rfl, St.sel (hsq69) 1 [0] rfl rfl⟩
  · replace hm := ifTe hb1 hm
    refine cnd_true (b := (p0s1.length : Int) != (p1s2.length : Int)) haq6 rfl rfl hb1 ?_
    refine wp_seq ?_
    refine wp_region_lit ?_
    refine seq_op0 haq6 hsq6 (opT_assign (v := .bool false) rfl rfl) rfl rfl ?_
    rintro u aq70 wq70 hf haq70 hsq70
    obtain rfl := Eq.symm hf
    clear haq6 hsq6 aq6 wq6
    refine wpList_nil ?_
    replace haq70 := haq70.pick' (L' := [(6, .bool false)]) ⟨rfl, trivial⟩
    refine nrm ?_
    refine wp_ret ?_
    refine thenR ?_
    obtain rfl := Option.some.inj hm
    exact ret_1 haq70 rfl (res_tmp haq70 rfl) ⟨_, rfl, rfl, _, Hp.le.rfl, St.sel (hsq70) 1 [0] rfl rfl⟩
set_option maxHeartbeats 8000000 in
theorem c_s_l11Nothing (r : Int × (List Bool) × (List (List Int))) (hm : m_s_l11Nothing = some r) {I : Hp} {w0 : World} : Con Try.prog 93 #[] I w0 [] (fun v => ∃ h0 h1 : Value, v = .agg #[.int .i64 r.1, h0, h1]) (fun v => [Ch.own (rSlice 4 rBool) [vg v [1]] r.2.1, Ch.own (rSlice 34 (rSlice 3 rInt)) [vg v [2]] r.2.2]) := by
  refine con_of_wp (n := 15) [] Try.func93 rfl rfl (Nat.le_of_ble_eq_true rfl) (args_all trivial) (fun F w a ha hs => ?_) (fun v => ⟨dp_own (dp_slice dp_bool), dp_own (dp_slice (dp_slice dp_int)), trivial⟩)
  unfold m_s_l11Nothing at hm
  refine wp_seq ?_
  refine wp_region_lit ?_
  refine seq_op ha hs rfl (opT_alloc (l := [.int .i64 0, .slice none 0 0, .slice none 0 0]) tz27 rfl rfl) (List.Perm.refl _) rfl ?_
  rintro _ aq1 wq1 ⟨g1, rfl⟩ haq1 (hsq1 : St I w0 wq1 [Ch.blk g1 [.int .i64 0, .slice none 0 0, .slice none 0 0] 27, F])
  clear ha hs a w
  refine wpList_nil ?_
  replace haq1 := haq1.pick' (L' := [(0, .pointer (some ⟨g1, 0, none⟩))]) ⟨rfl, trivial⟩
  refine nrm ?_
  refine wp_seq ?_
  refine wp_region_lit ?_
  refine seq_op haq1 hsq1 rfl (opT_lit0 (E := 3) (R := rInt) Try.underlying34 ti3 rfl) (List.Perm.refl _) rfl ?_
  rintro v1 aq2 wq2 - haq2 (hsq2 : St I w0 wq2 [Ch.own (rSlice 3 rInt) [v1] ([] : List Int), Ch.blk g1 [.int .i64 0, .slice none 0 0, .slice none 0 0] 27, F])
  clear haq1 hsq1 aq1 wq1
  refine seq_op0 haq2 hsq2 (opT_assign (v := v1) rfl rfl) rfl rfl ?_
  rintro u aq3 wq3 hf haq3 hsq3
  obtain rfl := Eq.symm hf
  clear haq2 hsq2 aq2 wq2
  refine wpList_nil ?_
  replace haq3 := haq3.pick' (L' := [(0, .pointer (some ⟨g1, 0, none⟩)), (1, v1)]) ⟨rfl, rfl, trivial⟩
  refine nrm ?_
  refine wp_seq ?_
  refine wp_seq ?_
  refine wp_region_lit ?_
  refine seq_op0 haq3 hsq3 (opT_assign (v := .int .i64 0) rfl rfl) rfl rfl ?_
  rintro u aq4 wq4 hf haq4 hsq4
  obtain rfl := Eq.symm hf
  clear haq3 hsq3 aq3 wq3
  refine wpList_nil ?_
  replace haq4 := haq4.pick' (L' := [(0, .pointer (some ⟨g1, 0, none⟩)), (1, v1), (2, .int .i64 0)]) ⟨rfl, rfl, rfl, trivial⟩
  refine nrm ?_
  obtain ⟨o1, hl1, hc1⟩ := bindL_some hm
  refine wp_cut (fun a w => ∃ s4 : (List Int) × Int, o1 = .brk s4 ∧ ∃ v7 : Value, Agr 15 a [(0, .pointer (some ⟨g1, 0, none⟩)), (1, v7)] ∧ St I w0 w [Ch.own (rSlice 3 rInt) [v7] s4.1, Ch.blk g1 [.int .i64 0, .slice none 0 0, .slice none 0 0] 27, F]) ?_ ?_
  · refine wp_block (wp_loopM (R := Int × (List Bool) × (List (List Int))) (S := (List Int) × Int) (fun s3 a w => ∃ v8 : Value, Agr 15 a [(0, .pointer (some ⟨g1, 0, none⟩)), (1, v8), (2, .int .i64 s3.2)] ∧ St I w0 w [Ch.own (rSlice 3 rInt) [v8] s3.1, Ch.blk g1 [.int .i64 0, .slice none 0 0, .slice none 0 0] 27, F]) hl1 ?_ ?_)
    · exact ⟨v1, haq4.pick' ⟨rfl, rfl, rfl, trivial⟩, St.sel hsq4 3 [0, 1, 2] rfl rfl⟩
    · rintro s3 o2 hm hf1 aq23 wq23 ⟨v8, haq23, hsq23⟩
      unfold m_s_l11Nothing_l0 at hm
      refine wp_seq ?_
      refine wp_seq ?_
      refine wp_region_lit ?_
      refine seq_op0 haq23 hsq23 (opT_move (v := .int .i64 s3.2) rfl rfl) rfl rfl ?_
      rintro u aq24 wq24 hf haq24 hsq24
      obtain rfl := Eq.symm hf
      clear haq23 hsq23 aq23 wq23
      refine seq_op0 haq24 hsq24 (opT_cmp (k := .i64) (m := s3.2) (n := 9) (c := decide (s3.2 < 9)) rfl rfl rfl rfl rfl) rfl rfl ?_
      rintro u aq25 wq25 hf haq25 hsq25
      obtain rfl := Eq.symm hf
      clear haq24 hsq24 aq24 wq24
      refine wpList_nil ?_
      replace haq25 := haq25.pick' (L' := [(0, .pointer (some ⟨g1, 0, none⟩)), (1, v8), (2, .int .i64 s3.2), (5, .bool (decide (s3.2 < 9)))]) ⟨rfl, rfl, rfl, rfl, trivial⟩
      refine nrm ?_
      rcases two (decide (s3.2 < 9)) with hb3 | hb3
      · replace hm := ifFe hb3 hm
        refine cnd_false (b := decide (s3.2 < 9)) haq25 rfl rfl hb3 ?_
        refine wp_exit ?_
        refine thenX ?_
        refine thenX ?_
        refine ex_in ?_
        refine nrm ?_
        exact ⟨_, loopBrk hm hf1, ⟨v8, haq25.pick' ⟨rfl, rfl, trivial⟩, St.sel hsq25 3 [0, 1, 2] rfl rfl⟩⟩
      · replace hm := ifTe hb3 hm
        refine cnd_true (b := decide (s3.2 < 9)) haq25 rfl rfl hb3 ?_
        refine wp_skip ?_
        refine nrm ?_
        refine wp_seq ?_
        refine wp_block ?_
        refine wp_region_lit ?_
        refine seq_op0 haq25 hsq25 (opT_move (v := v8) rfl rfl) rfl rfl ?_
        rintro u aq26 wq26 hf haq26 hsq26
        obtain rfl := Eq.symm hf
        clear haq25 hsq25 aq25 wq25
        refine seq_op haq26 hsq26 rfl (opT_lit_cpy (E := 3) (R := rInt) (S := rInt) [(.int .i64 (-1), [.int .i64 (-1)])] [-1] cpy_int (rd_all ⟨rfl, trivial⟩) Try.underlying34 tz3 (by decide) rfl (by decide) (by decide) rfl rfl rfl rfl (us_all ⟨⟨rfl, rfl⟩, trivial⟩)) (List.Perm.refl _) rfl ?_
        rintro v9 aq27 wq27 - haq27 (hsq27 : St I w0 wq27 [Ch.own (rSlice 3 rInt) [v9] ([-1]), Ch.own (rSlice 3 rInt) [v8] s3.1, Ch.blk g1 [.int .i64 0, .slice none 0 0, .slice none 0 0] 27, F])
        clear haq26 hsq26 aq26 wq26
        obtain ⟨z3, e3, hm⟩ := bind_some hm
        refine seq_op haq27 hsq27 rfl (opT_app (E := 3) (R := rInt) (s := v8) (u := v9) e3 Try.underlying34 tz3 rfl (by decide) rfl (by decide) rfl rfl rfl) (perm_sel [1, 0, 2, 3] (m := 4) rfl rfl) rfl ?_
        rintro v10 aq28 wq28 - haq28 (hsq28 : St I w0 wq28 [Ch.own (rSlice 3 rInt) [v10] z3, Ch.blk g1 [.int .i64 0, .slice none 0 0, .slice none 0 0] 27, F])
        clear haq27 hsq27 aq27 wq27
        refine seq_op0 haq28 hsq28 (opT_assign (v := v10) rfl rfl) rfl rfl ?_
        rintro u aq29 wq29 hf haq29 hsq29
        obtain rfl := Eq.symm hf
        clear haq28 hsq28 aq28 wq28
        refine wpList_nil ?_
        replace haq29 := haq29.pick' (L' := [(0, .pointer (some ⟨g1, 0, none⟩)), (1, v10), (2, .int .i64 s3.2)]) ⟨rfl, rfl, rfl, trivial⟩
        refine nrmB ?_
        refine nrm ?_
        refine wp_region_lit ?_
        refine seq_op0 haq29 hsq29 (opT_move (v := .int .i64 s3.2) rfl rfl) rfl rfl ?_
        rintro u aq30 wq30 hf haq30 hsq30
        obtain rfl := Eq.symm hf
        clear haq29 hsq29 aq29 wq29
        refine seq_op0 haq30 hsq30 (opT_add (m := s3.2) (n := 1) rfl rfl rfl) rfl rfl ?_
        rintro u aq31 wq31 hf haq31 hsq31
        obtain rfl := Eq.symm hf
        clear haq30 hsq30 aq30 wq30
        refine seq_op0 haq31 hsq31 (opT_assign (v := .int .i64 (IntKind.i64.wrap (s3.2 + 1))) rfl rfl) rfl rfl ?_
        rintro u aq32 wq32 hf haq32 hsq32
        obtain rfl := Eq.symm hf
        clear haq31 hsq31 aq31 wq31
        refine wpList_nil ?_
        replace haq32 := haq32.pick' (L' := [(0, .pointer (some ⟨g1, 0, none⟩)), (1, v10), (2, .int .i64 (IntKind.i64.wrap (s3.2 + 1)))]) ⟨rfl, rfl, rfl, trivial⟩
        refine nrm ?_
        exact ⟨_, (Option.some.inj hm).symm, ⟨v10, haq32.pick' ⟨rfl, rfl, rfl, trivial⟩, St.sel hsq32 3 [0, 1, 2] rfl rfl⟩⟩
  · rintro aq33 wq33 ⟨s4, ho1, v7, haq33, hsq33⟩
    replace hm := loopOut ho1 hc1
    clear ho1 hc1 hl1
    refine nrm ?_
    refine wp_seq ?_
    refine wp_region_lit ?_
    refine seq_op haq33 hsq33 rfl (opT_lit_cpy (E := 4) (R := rBool) (S := rBool) [(.bool false, [.bool false])] [false] cpy_bool (rd_all ⟨rfl, trivial⟩) Try.underlying22 tz4 (by decide) rfl (by decide) (by decide) rfl rfl rfl rfl (us_all ⟨⟨rfl, rfl⟩, trivial⟩)) (List.Perm.refl _) rfl ?_
    rintro v11 aq34 wq34 - haq34 (hsq34 : St I w0 wq34 [Ch.own (rSlice 4 rBool) [v11] ([false]), Ch.own (rSlice 3 rInt) [v7] s4.1, Ch.blk g1 [.int .i64 0, .slice none 0 0, .slice none 0 0] 27, F])
    clear haq33 hsq33 aq33 wq33
    refine seq_op0 haq34 hsq34 (opT_move (v := v7) rfl rfl) rfl rfl ?_
    rintro u aq35 wq35 hf haq35 hsq35
    obtain rfl := Eq.symm hf
    clear haq34 hsq34 aq34 wq34
    refine seq_op haq35 hsq35 rfl (opT_lit (E := 34) (R := rSlice 3 rInt) [(v7, [v7])] [s4.1] Try.underlying23 tz34 (by decide) rfl (by decide) (by decide) rfl rfl rfl rfl (us_all ⟨⟨(Hd.cells (St.hd hsq35 1 rfl).1), rfl⟩, trivial⟩)) (perm_front (i := 1) rfl) rfl ?_
    rintro v12 aq36 wq36 - haq36 (hsq36 : St I w0 wq36 [Ch.own (rSlice 34 (rSlice 3 rInt)) [v12] ([s4.1]), Ch.own (rSlice 4 rBool) [v11] ([false]), Ch.blk g1 [.int .i64 0, .slice none 0 0, .slice none 0 0] 27, F])
    clear haq35 hsq35 aq35 wq35
    refine seq_op0 haq36 hsq36 (opT_build (zl := [.int .i64 0, .slice none 0 0, .slice none 0 0]) (r := [.int .i64 0, v11, v12]) [(1, [v11]), (2, [v12])] tb27 tz27 rfl rfl ⟨rfl, (Hd.cells (St.hd hsq36 1 rfl).1), rfl, (Hd.cells (St.hd hsq36 0 rfl).1), trivial⟩ rfl) rfl rfl ?_
    rintro u aq37 wq37 hf haq37 hsq37
    obtain rfl := Eq.symm hf
    clear haq36 hsq36 aq36 wq36
    refine seq_op haq37 hsq37 rfl (opT_store_blk (g := g1) (off := 0) (l := [.int .i64 0, .slice none 0 0, .slice none 0 0]) (d := [.int .i64 0, v11, v12]) (E := 27) (u := .agg #[.int .i64 0, v11, v12]) ti27 rfl rfl rfl rfl rfl (allC rfl (allC (Hd.one (St.hd hsq37 1 rfl).1) (allC (Hd.one (St.hd hsq37 0 rfl).1) allN))) (Nat.le_of_ble_eq_true rfl)) (perm_front (i := 2) rfl) rfl ?_
    rintro _ aq38 wq38 - haq38 (hsq38 : St I w0 wq38 [Ch.blk g1 [.int .i64 0, v11, v12] 27, Ch.own (rSlice 34 (rSlice 3 rInt)) [v12] ([s4.1]), Ch.own (rSlice 4 rBool) [v11] ([false]), F])
    clear haq37 hsq37 aq37 wq37
    refine wpList_nil ?_
    replace haq38 := haq38.pick' (L' := [(0, .pointer (some ⟨g1, 0, none⟩))]) ⟨rfl, trivial⟩
    refine nrm ?_
    refine wp_ret ?_
    obtain rfl := Option.some.inj hm
    exact ret_1 haq38 rfl (res_cell (g := g1) haq38 rfl hsq38 0 rfl ti27 rfl) ⟨_, rfl, ⟨_, _, rfl⟩, _, Hp.le.rfl, St.sel (hsq38) 4 [2, 1, 3] rfl rfl⟩
set_option maxHeartbeats 8000000 in
theorem c_s_l11Find (p0l : List Int) (p1x : Int) (r : Int) (hm : m_s_l11Find p0l p1x = some r) {I : Hp} {w0 : World} (va0 : Value) (ra0 : (rSlice 3 rInt).rd I [va0] p0l) : Con Try.prog 94 #[va0, .int .i64 p1x] I w0 [] (fun v => v = .int .i64 r) (fun v => []) := by
  refine con_of_wp (n := 19) [(0, va0), (1, .int .i64 p1x)] Try.func94 rfl rfl (Nat.le_of_ble_eq_true rfl) (args_all ⟨rfl, rfl, trivial⟩) (fun F w a ha hs => ?_) (fun v => trivial)
  unfold m_s_l11Find at hm
  refine wp_seq ?_
  refine wp_region_lit ?_
  refine seq_op0 ha hs (opT_assign (v := .int .i64 0) rfl rfl) rfl rfl ?_
  rintro u aq1 wq1 hf haq1 hsq1
  obtain rfl := Eq.symm hf
  clear ha hs a w
  refine wpList_nil ?_
  replace haq1 := haq1.pick' (L' := [(0, va0), (1, .int .i64 p1x)]) ⟨rfl, rfl, trivial⟩
  refine nrm ?_
  refine wp_seq ?_
  refine wp_seq ?_
  refine wp_region_lit ?_
  refine seq_op0 haq1 hsq1 (opT_assign (v := .int .i64 0) rfl rfl) rfl rfl ?_
  rintro u aq2 wq2 hf haq2 hsq2
  obtain rfl := Eq.symm hf
  clear haq1 hsq1 aq1 wq1
  refine wpList_nil ?_
  replace haq2 := haq2.pick' (L' := [(0, va0), (1, .int .i64 p1x), (5, .int .i64 0)]) ⟨rfl, rfl, rfl, trivial⟩
  refine nrm ?_
  obtain ⟨o1, hl1, hc1⟩ := bindL_some hm
  refine wp_cut (fun a w => ∃ s4 : Int, o1 = .brk s4 ∧ Agr 19 a [] ∧ St I w0 w [F]) ?_ ?_
  · refine wp_block (wp_loopM (R := Int) (S := Int) (fun s3 a w => Agr 19 a [(0, va0), (1, .int .i64 p1x), (5, .int .i64 s3)] ∧ St I w0 w [F]) hl1 ?_ ?_)
    · exact ⟨haq2.pick' ⟨rfl, rfl, rfl, trivial⟩, St.sel hsq2 1 [0] rfl rfl⟩
    · rintro s3 o2 hm hf1 aq33 wq33 ⟨haq33, hsq33⟩
      unfold m_s_l11Find_l0 at hm
      refine wp_seq ?_
      refine wp_seq ?_
      refine wp_region_lit ?_
      refine seq_op0 haq33 hsq33 (opT_move (v := .int .i64 s3) rfl rfl) rfl rfl ?_
      rintro u aq34 wq34 hf haq34 hsq34
      obtain rfl := Eq.symm hf
      clear haq33 hsq33 aq33 wq33
      refine seq_op0 haq34 hsq34 (opT_move (v := va0) rfl rfl) rfl rfl ?_
      rintro u aq35 wq35 hf haq35 hsq35
      obtain rfl := Eq.symm hf
      clear haq34 hsq34 aq34 wq34
      refine seq_op0 haq35 hsq35 (opT_len_hd (v := va0) (n := p0l.length) (Hd.of_rd ra0) Try.underlying34 rfl rfl) rfl rfl ?_
      rintro u aq36 wq36 hf haq36 hsq36
      obtain rfl := Eq.symm hf
      clear haq35 hsq35 aq35 wq35
      refine seq_op0 haq36 hsq36 (opT_cmp (k := .i64) (m := s3) (n := (p0l.length : Int)) (c := decide (s3 < (p0l.length : Int))) rfl rfl rfl rfl rfl) rfl rfl ?_
      rintro u aq37 wq37 hf haq37 hsq37
      obtain rfl := Eq.symm hf
      clear haq36 hsq36 aq36 wq36
      refine wpList_nil ?_
      replace haq37 := haq37.pick' (L' := [(0, va0), (1, .int .i64 p1x), (5, .int .i64 s3), (9, .bool (decide (s3 < (p0l.length : Int))))]) ⟨rfl, rfl, rfl, rfl, trivial⟩
      refine nrm ?_
      rcases two (decide (s3 < (p0l.length : Int))) with hb5 | hb5
      · replace hm := ifFe hb5 hm
        refine cnd_false (b := decide (s3 < (p0l.length : Int))) haq37 rfl rfl hb5 ?_
        refine wp_exit ?_
        refine thenX ?_
        refine thenX ?_
        refine ex_in ?_
        refine nrm ?_
        exact ⟨_, loopBrk hm hf1, ⟨haq37.pick' trivial, St.sel hsq37 1 [0] rfl rfl⟩⟩
      · replace hm := ifTe hb5 hm
        refine cnd_true (b := decide (s3 < (p0l.length : Int))) haq37 rfl rfl hb5 ?_
        refine wp_skip ?_
        refine nrm ?_
        refine wp_seq ?_
        refine wp_block ?_
        refine wp_seq ?_
        refine wp_region_lit ?_
        refine seq_op0 haq37 hsq37 (opT_move (v := va0) rfl rfl) rfl rfl ?_
        rintro u aq38 wq38 hf haq38 hsq38
        obtain rfl := Eq.symm hf
        clear haq37 hsq37 aq37 wq37
        refine seq_op0 haq38 hsq38 (opT_move (v := .int .i64 s3) rfl rfl) rfl rfl ?_
        rintro u aq39 wq39 hf haq39 hsq39
        obtain rfl := Eq.symm hf
        clear haq38 hsq38 aq38 wq38
        obtain ⟨x3, e3, hm⟩ := bind_some hm
        refine seq_op0 haq39 hsq39 (opT_index_hd (xs := p0l) (i := s3) (n := 1) (Hd.of_rd ra0) Try.underlying34 ti3 rfl rfl rfl (getI_in e3)) rfl rfl ?_
        rintro u aq40 wq40 hf haq40 hsq40
        obtain rfl := Eq.symm hf
        clear haq39 hsq39 aq39 wq39
        refine seq_op0 haq40 hsq40 (opT_load_el (S := rInt) (xs := p0l) (a := x3) (i := s3) (k := 1) (off := 0) (f := fun (x : Int) => x) ra0 e3 Fld.self ti3 rfl rfl rfl rfl rfl) rfl rfl ?_
        rintro u aq41 wq41 hf haq41 hsq41
        obtain rfl := lds_one hf
        clear haq40 hsq40 aq40 wq40
        refine seq_op0 haq41 hsq41 (opT_move (v := .int .i64 p1x) rfl rfl) rfl rfl ?_
        rintro u aq42 wq42 hf haq42 hsq42
        obtain rfl := Eq.symm hf
        clear haq41 hsq41 aq41 wq41
        refine seq_op0 haq42 hsq42 (opT_cmp (k := .i64) (m := x3) (n := p1x) (c := x3 == p1x) rfl rfl rfl rfl rfl) rfl rfl ?_
        rintro u aq43 wq43 hf haq43 hsq43
        obtain rfl := Eq.symm hf
        clear haq42 hsq42 aq42 wq42
        refine wpList_nil ?_
        replace haq43 := haq43.pick' (L' := [(0, va0), (1, .int .i64 p1x), (5, .int .i64 s3), (17, .bool (x3 == p1x))]) ⟨rfl, rfl, rfl, rfl, trivial⟩
        refine nrm ?_
        rcases two (x3 == p1x) with hb6 | hb6
        · replace hm := ifFe hb6 hm
          refine cnd_false (b := x3 == p1x) haq43 rfl rfl hb6 ?_
          refine wp_skip ?_
          refine nrmB ?_
          refine nrm ?_
          refine wp_region_lit ?_
          refine seq_op0 haq43 hsq43 (opT_move (v := .int .i64 s3) rfl rfl) rfl rfl ?_
          rintro u aq44 wq44 hf haq44 hsq44
          obtain rfl := Eq.symm hf
          clear haq43 hsq43 aq43 wq43
          refine seq_op0 haq44 hsq44 (opT_add (m := s3) (n := 1) rfl rfl rfl) rfl rfl ?_
          rintro u aq45 wq45 hf haq45 hsq45
          obtain rfl := Eq.symm hf
          clear haq44 hsq44 aq44 wq44
          refine seq_op0 haq45 hsq45 (opT_assign (v := .int .i64 (IntKind.i64.wrap (s3 + 1))) rfl rfl) rfl rfl ?_
          rintro u aq46 wq46 hf haq46 hsq46
          obtain rfl := Eq.symm hf
          clear haq45 hsq45 aq45 wq45
          refine wpList_nil ?_
          replace haq46 := haq46.pick' (L' := [(0, va0), (1, .int .i64 p1x), (5, .int .i64 (IntKind.i64.wrap (s3 + 1)))]) ⟨rfl, rfl, rfl, trivial⟩
          refine nrm ?_
          exact ⟨_, (Option.some.inj hm).symm, ⟨haq46.pick' ⟨rfl, rfl, rfl, trivial⟩, St.sel hsq46 1 [0] rfl rfl⟩⟩
        · replace hm := ifTe hb6 hm
          refine cnd_true (b := x3 == p1x) haq43 rfl rfl hb6 ?_
          refine wp_seq ?_
          refine wp_region_lit ?_
          refine seq_op0 haq43 hsq43 (opT_move (v := .int .i64 s3) rfl rfl) rfl rfl ?_
          rintro u aq47 wq47 hf haq47 hsq47
          obtain rfl := Eq.symm hf
          clear haq43 hsq43 aq43 wq43
          refine seq_op0 haq47 hsq47 (opT_assign (v := .int .i64 s3) rfl rfl) rfl rfl ?_
          rintro u aq48 wq48 hf haq48 hsq48
          obtain rfl := Eq.symm hf
          clear haq47 hsq47 aq47 wq47
          refine wpList_nil ?_
          replace haq48 := haq48.pick' (L' := [(4, .int .i64 s3)]) ⟨rfl, trivial⟩
          refine nrm ?_
          refine wp_ret ?_
          refine blkR ?_
          refine thenR ?_
          refine thenR ?_
          refine blkR ?_
          refine thenR ?_
          refine thenR ?_
          replace hm := loopRet hm hf1 hc1
          obtain rfl := Option.some.inj hm
          exact ret_1 haq48 rfl (res_tmp haq48 rfl) ⟨_, rfl, rfl, _, Hp.le.rfl, St.sel (hsq48) 1 [0] rfl rfl⟩
  · rintro aq49 wq49 ⟨s4, ho1, haq49, hsq49⟩
    replace hm := loopOut ho1 hc1
    clear ho1 hc1 hl1
    refine nrm ?_
    refine wp_seq ?_
    refine wp_region_lit ?_
    refine seq_op0 haq49 hsq49 (opT_assign (v := .int .i64 (-1)) rfl rfl) rfl rfl ?_
    rintro u aq50 wq50 hf haq50 hsq50
    obtain rfl := Eq.symm hf
    clear haq49 hsq49 aq49 wq49
    refine wpList_nil ?_
    replace haq50 := haq50.pick' (L' := [(4, .int .i64 (-1))]) ⟨rfl, trivial⟩
    refine nrm ?_
    refine wp_ret ?_
    obtain rfl := Option.some.inj hm
    exact ret_1 haq50 rfl (res_tmp haq50 rfl) ⟨_, rfl, rfl, _, Hp.le.rfl, St.sel (hsq50) 1 [0] rfl rfl⟩
set_option maxHeartbeats 8000000 in
theorem c_w_szIntS (p0a : List Int) (p1left : Int) (r : Int) (hm : m_w_szIntS p0a p1left = some r) {I : Hp} {w0 : World} (va0 : Value) (ra0 : (rSlice 3 rInt).rd I [va0] p0a) : Con Try.prog 63 #[va0, .int .i64 p1left] I w0 [] (fun v => v = .int .i64 r) (fun v => []) := by
  refine con_of_wp (n := 12) [(0, va0), (1, .int .i64 p1left)] Try.func63 rfl rfl (Nat.le_of_ble_eq_true rfl) (args_all ⟨rfl, rfl, trivial⟩) (fun F w a ha hs => ?_) (fun v => trivial)
  unfold m_w_szIntS at hm
  refine wp_seq ?_
  refine wp_region_lit ?_
  refine seq_op0 ha hs (opT_assign (v := .int .i64 0) rfl rfl) rfl rfl ?_
  rintro u aq1 wq1 hf haq1 hsq1
  obtain rfl := Eq.symm hf
  clear ha hs a w
  refine wpList_nil ?_
  replace haq1 := haq1.pick' (L' := [(0, va0), (1, .int .i64 p1left)]) ⟨rfl, rfl, trivial⟩
  refine nrm ?_
  refine wp_seq ?_
  refine wp_region_lit ?_
  refine seq_op0 haq1 hsq1 (opT_move (v := .int .i64 p1left) rfl rfl) rfl rfl ?_
  rintro u aq2 wq2 hf haq2 hsq2
  obtain rfl := Eq.symm hf
  clear haq1 hsq1 aq1 wq1
  refine seq_op0 haq2 hsq2 (opT_move (v := va0) rfl rfl) rfl rfl ?_
  rintro u aq3 wq3 hf haq3 hsq3
  obtain rfl := Eq.symm hf
  clear haq2 hsq2 aq2 wq2
  refine seq_op0 haq3 hsq3 (opT_len_hd (v := va0) (n := p0a.length) (Hd.of_rd ra0) Try.underlying34 rfl rfl) rfl rfl ?_
  rintro u aq4 wq4 hf haq4 hsq4
  obtain rfl := Eq.symm hf
  clear haq3 hsq3 aq3 wq3
  refine seq_op0 haq4 hsq4 (opT_sub (m := p1left) (n := (p0a.length : Int)) rfl rfl rfl) rfl rfl ?_
  rintro u aq5 wq5 hf haq5 hsq5
  obtain rfl := Eq.symm hf
  clear haq4 hsq4 aq4 wq4
  refine seq_op0 haq5 hsq5 (opT_assign (v := .int .i64 (IntKind.i64.wrap (p1left - (p0a.length : Int)))) rfl rfl) rfl rfl ?_
  rintro u aq6 wq6 hf haq6 hsq6
  obtain rfl := Eq.symm hf
  clear haq5 hsq5 aq5 wq5
  refine wpList_nil ?_
  replace haq6 := haq6.pick' (L' := [(1, .int .i64 (IntKind.i64.wrap (p1left - (p0a.length : Int))))]) ⟨rfl, trivial⟩
  refine nrm ?_
  refine wp_seq ?_
  refine wp_seq ?_
  refine wp_region_lit ?_
  refine seq_op0 haq6 hsq6 (opT_move (v := .int .i64 (IntKind.i64.wrap (p1left - (p0a.length : Int)))) rfl rfl) rfl rfl ?_
  rintro u aq7 wq7 hf haq7 hsq7
  obtain rfl := Eq.symm hf
  clear haq6 hsq6 aq6 wq6
  refine seq_op0 haq7 hsq7 (opT_cmp (k := .i64) (m := IntKind.i64.wrap (p1left - (p0a.length : Int))) (n := 0) (c := decide (IntKind.i64.wrap (p1left - (p0a.length : Int)) < 0)) rfl rfl rfl rfl rfl) rfl rfl ?_
  rintro u aq8 wq8 hf haq8 hsq8
  obtain rfl := Eq.symm hf
  clear haq7 hsq7 aq7 wq7
  refine wpList_nil ?_
  replace haq8 := haq8.pick' (L' := [(1, .int .i64 (IntKind.i64.wrap (p1left - (p0a.length : Int)))), (10, .bool (decide (IntKind.i64.wrap (p1left - (p0a.length : Int)) < 0)))]) ⟨rfl, rfl, trivial⟩
  refine nrm ?_
  rcases two (decide (IntKind.i64.wrap (p1left - (p0a.length : Int)) < 0)) with hb1 | hb1
  · replace hm := ifFe hb1 hm
    refine cnd_false (b := decide (IntKind.i64.wrap (p1left - (p0a.length : Int)) < 0)) haq8 rfl rfl hb1 ?_
    refine wp_skip ?_
    refine nrm ?_
    refine wp_seq ?_
    refine wp_region_lit ?_
    refine seq_op0 haq8 hsq8 (opT_move (v := .int .i64 (IntKind.i64.wrap (p1left - (p0a.length : Int)))) rfl rfl) rfl rfl ?_
    rintro u aq9 wq9 hf haq9 hsq9
    obtain rfl := Eq.symm hf
    clear haq8 hsq8 aq8 wq8
    refine seq_op0 haq9 hsq9 (opT_assign (v := .int .i64 (IntKind.i64.wrap (p1left - (p0a.length : Int)))) rfl rfl) rfl rfl ?_
    rintro u aq10 wq10 hf haq10 hsq10
    obtain rfl := Eq.symm hf
    clear haq9 hsq9 aq9 wq9
    refine wpList_nil ?_
    replace haq10 := haq10.pick' (L' := [(4, .int .i64 (IntKind.i64.wrap (p1left - (p0a.length : Int))))]) ⟨rfl, trivial⟩
    refine nrm ?_
    refine wp_ret ?_
    obtain rfl := Option.some.inj hm
    exact ret_1 haq10 rfl (res_tmp haq10 rfl) ⟨_, rfl, rfl, _, Hp.le.rfl, St.sel (hsq10) 1 [0] rfl rfl⟩
  · replace hm := ifTe hb1 hm
    refine cnd_true (b := decide (IntKind.i64.wrap (p1left - (p0a.length : Int)) < 0)) haq8 rfl rfl hb1 ?_
    refine wp_seq ?_
    refine wp_region_lit ?_
    refine seq_op0 haq8 hsq8 (opT_assign (v := .int .i64 (-1)) rfl rfl) rfl rfl ?_
    rintro u aq11 wq11 hf haq11 hsq11
    obtain rfl := Eq.symm hf
    clear haq8 hsq8 aq8 wq8
    refine wpList_nil ?_
    replace haq11 := haq11.pick' (L' := [(4, .int .i64 (-1))]) ⟨rfl, trivial⟩
    refine nrm ?_
    refine wp_ret ?_
    refine thenR ?_
    obtain rfl := Option.some.inj hm
    exact ret_1 haq11 rfl (res_tmp haq11 rfl) ⟨_, rfl, rfl, _, Hp.le.rfl, St.sel (hsq11) 1 [0] rfl rfl⟩
end Go.Proofs.Ytcihbmdppgpmjaa.D
