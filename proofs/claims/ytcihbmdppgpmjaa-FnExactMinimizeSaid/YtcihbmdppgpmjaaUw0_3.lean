/- Printed by dec.py: models of functions and the walks that show them. -/
import Derived.Test.YtcihbmdppgpmjaaUm
set_option linter.unusedVariables false
set_option linter.unusedSimpArgs false
set_option linter.unnecessarySimpa false
set_option maxRecDepth 100000
namespace Go.Proofs.Ytcihbmdppgpmjaa.D
open Go.RowKit
set_option maxHeartbeats 8000000 in
theorem c_g_math_bits_Mul64 (p0x : Int) (p1y : Int) (r : Int × Int) (hm : m_g_math_bits_Mul64 p0x p1y = some r) {I : Hp} {w0 : World} : Con Try.prog 188 #[.int .u64 p0x, .int .u64 p1y] I w0 [] (fun v => v = .tuple #[.int .u64 r.1, .int .u64 r.2]) (fun v => []) := by
  refine con_of_wp (n := 51) [(0, .int .u64 p0x), (1, .int .u64 p1y)] Try.func188 rfl rfl (Nat.le_of_ble_eq_true rfl) (args_all ⟨rfl, rfl, trivial⟩) (fun F w a ha hs => ?_) (fun v => trivial)
  unfold m_g_math_bits_Mul64 at hm
  refine wp_seq ?_
  refine wp_region_lit ?_
  refine sv ha hs (opT_assign (v := .int .u64 0) rfl rfl) rfl rfl ?_
  clear ha hs a w;intro a1 w1 A1 S1
  refine sv A1 S1 (opT_assign (v := .int .u64 0) rfl rfl) rfl rfl ?_
  clear A1 S1 a1 w1;intro a2 w2 A2 S2
  refine wpList_nil ?_
  replace A2 := A2.pick' (L' := [(0, .int .u64 p0x), (1, .int .u64 p1y)]) ⟨rfl, rfl, trivial⟩
  refine nrm ?_
  refine wp_seq ?_
  refine wp_region_lit ?_
  refine sv A2 S2 (opT_move (v := .int .u64 p0x) rfl rfl) rfl rfl ?_
  clear A2 S2 a2 w2;intro a3 w3 A3 S3
  refine sv A3 S3 (opU_and (m := p0x) (n := 4294967295) rfl rfl rfl) rfl rfl ?_
  clear A3 S3 a3 w3;intro a4 w4 A4 S4
  refine sv A4 S4 (opT_assign (v := .int .u64 (andU p0x 4294967295)) rfl rfl) rfl rfl ?_
  clear A4 S4 a4 w4;intro a5 w5 A5 S5
  refine wpList_nil ?_
  replace A5 := A5.pick' (L' := [(0, .int .u64 p0x), (1, .int .u64 p1y), (6, .int .u64 (andU p0x 4294967295))]) ⟨rfl, rfl, rfl, trivial⟩
  refine nrm ?_
  refine wp_seq ?_
  refine wp_region_lit ?_
  refine sv A5 S5 (opT_move (v := .int .u64 p0x) rfl rfl) rfl rfl ?_
  clear A5 S5 a5 w5;intro a6 w6 A6 S6
  refine sv A6 S6 (opU_shr (m := p0x) (n := 32) rfl rfl rfl (by decide)) rfl rfl ?_
  clear A6 S6 a6 w6;intro a7 w7 A7 S7
  refine sv A7 S7 (opT_assign (v := .int .u64 (shrI p0x 32)) rfl rfl) rfl rfl ?_
  clear A7 S7 a7 w7;intro a8 w8 A8 S8
  refine wpList_nil ?_
  replace A8 := A8.pick' (L' := [(0, .int .u64 p0x), (1, .int .u64 p1y), (6, .int .u64 (andU p0x 4294967295)), (7, .int .u64 (shrI p0x 32))]) ⟨rfl, rfl, rfl, rfl, trivial⟩
  refine nrm ?_
  refine wp_seq ?_
  refine wp_region_lit ?_
  refine sv A8 S8 (opT_move (v := .int .u64 p1y) rfl rfl) rfl rfl ?_
  clear A8 S8 a8 w8;intro a9 w9 A9 S9
  refine sv A9 S9 (opU_and (m := p1y) (n := 4294967295) rfl rfl rfl) rfl rfl ?_
  clear A9 S9 a9 w9;intro a10 w10 A10 S10
  refine sv A10 S10 (opT_assign (v := .int .u64 (andU p1y 4294967295)) rfl rfl) rfl rfl ?_
  clear A10 S10 a10 w10;intro a11 w11 A11 S11
  refine wpList_nil ?_
  replace A11 := A11.pick' (L' := [(0, .int .u64 p0x), (1, .int .u64 p1y), (6, .int .u64 (andU p0x 4294967295)), (7, .int .u64 (shrI p0x 32)), (8, .int .u64 (andU p1y 4294967295))]) ⟨rfl, rfl, rfl, rfl, rfl, trivial⟩
  refine nrm ?_
  refine wp_seq ?_
  refine wp_region_lit ?_
  refine sv A11 S11 (opT_move (v := .int .u64 p1y) rfl rfl) rfl rfl ?_
  clear A11 S11 a11 w11;intro a12 w12 A12 S12
  refine sv A12 S12 (opU_shr (m := p1y) (n := 32) rfl rfl rfl (by decide)) rfl rfl ?_
  clear A12 S12 a12 w12;intro a13 w13 A13 S13
  refine sv A13 S13 (opT_assign (v := .int .u64 (shrI p1y 32)) rfl rfl) rfl rfl ?_
  clear A13 S13 a13 w13;intro a14 w14 A14 S14
  refine wpList_nil ?_
  replace A14 := A14.pick' (L' := [(0, .int .u64 p0x), (1, .int .u64 p1y), (6, .int .u64 (andU p0x 4294967295)), (7, .int .u64 (shrI p0x 32)), (8, .int .u64 (andU p1y 4294967295)), (9, .int .u64 (shrI p1y 32))]) ⟨rfl, rfl, rfl, rfl, rfl, rfl, trivial⟩
  refine nrm ?_
  refine wp_seq ?_
  refine wp_region_lit ?_
  refine sv A14 S14 (opT_move (v := .int .u64 (andU p0x 4294967295)) rfl rfl) rfl rfl ?_
  clear A14 S14 a14 w14;intro a15 w15 A15 S15
  refine sv A15 S15 (opT_move (v := .int .u64 (andU p1y 4294967295)) rfl rfl) rfl rfl ?_
  clear A15 S15 a15 w15;intro a16 w16 A16 S16
  refine sv A16 S16 (opU_mul (m := andU p0x 4294967295) (n := andU p1y 4294967295) rfl rfl rfl) rfl rfl ?_
  clear A16 S16 a16 w16;intro a17 w17 A17 S17
  refine sv A17 S17 (opT_assign (v := .int .u64 (IntKind.u64.wrap ((andU p0x 4294967295) * (andU p1y 4294967295)))) rfl rfl) rfl rfl ?_
  clear A17 S17 a17 w17;intro a18 w18 A18 S18
  refine wpList_nil ?_
  replace A18 := A18.pick' (L' := [(0, .int .u64 p0x), (1, .int .u64 p1y), (6, .int .u64 (andU p0x 4294967295)), (7, .int .u64 (shrI p0x 32)), (8, .int .u64 (andU p1y 4294967295)), (9, .int .u64 (shrI p1y 32)), (10, .int .u64 (IntKind.u64.wrap ((andU p0x 4294967295) * (andU p1y 4294967295))))]) ⟨rfl, rfl, rfl, rfl, rfl, rfl, rfl, trivial⟩
  refine nrm ?_
  refine wp_seq ?_
  refine wp_region_lit ?_
  refine sv A18 S18 (opT_move (v := .int .u64 (shrI p0x 32)) rfl rfl) rfl rfl ?_
  clear A18 S18 a18 w18;intro a19 w19 A19 S19
  refine sv A19 S19 (opT_move (v := .int .u64 (andU p1y 4294967295)) rfl rfl) rfl rfl ?_
  clear A19 S19 a19 w19;intro a20 w20 A20 S20
  refine sv A20 S20 (opU_mul (m := shrI p0x 32) (n := andU p1y 4294967295) rfl rfl rfl) rfl rfl ?_
  clear A20 S20 a20 w20;intro a21 w21 A21 S21
  refine sv A21 S21 (opT_move (v := .int .u64 (IntKind.u64.wrap ((andU p0x 4294967295) * (andU p1y 4294967295)))) rfl rfl) rfl rfl ?_
  clear A21 S21 a21 w21;intro a22 w22 A22 S22
  refine sv A22 S22 (opU_shr (m := IntKind.u64.wrap ((andU p0x 4294967295) * (andU p1y 4294967295))) (n := 32) rfl rfl rfl (by decide)) rfl rfl ?_
  clear A22 S22 a22 w22;intro a23 w23 A23 S23
  refine sv A23 S23 (opU_add (m := IntKind.u64.wrap ((shrI p0x 32) * (andU p1y 4294967295))) (n := shrI (IntKind.u64.wrap ((andU p0x 4294967295) * (andU p1y 4294967295))) 32) rfl rfl rfl) rfl rfl ?_
  clear A23 S23 a23 w23;intro a24 w24 A24 S24
  refine sv A24 S24 (opT_assign (v := .int .u64 (IntKind.u64.wrap ((IntKind.u64.wrap ((shrI p0x 32) * (andU p1y 4294967295))) + (shrI (IntKind.u64.wrap ((andU p0x 4294967295) * (andU p1y 4294967295))) 32)))) rfl rfl) rfl rfl ?_
  clear A24 S24 a24 w24;intro a25 w25 A25 S25
  refine wpList_nil ?_
  replace A25 := A25.pick' (L' := [(0, .int .u64 p0x), (1, .int .u64 p1y), (6, .int .u64 (andU p0x 4294967295)), (7, .int .u64 (shrI p0x 32)), (9, .int .u64 (shrI p1y 32)), (11, .int .u64 (IntKind.u64.wrap ((IntKind.u64.wrap ((shrI p0x 32) * (andU p1y 4294967295))) + (shrI (IntKind.u64.wrap ((andU p0x 4294967295) * (andU p1y 4294967295))) 32))))]) ⟨rfl, rfl, rfl, rfl, rfl, rfl, trivial⟩
  refine nrm ?_
  refine wp_seq ?_
  refine wp_region_lit ?_
  refine sv A25 S25 (opT_move (v := .int .u64 (IntKind.u64.wrap ((IntKind.u64.wrap ((shrI p0x 32) * (andU p1y 4294967295))) + (shrI (IntKind.u64.wrap ((andU p0x 4294967295) * (andU p1y 4294967295))) 32)))) rfl rfl) rfl rfl ?_
  clear A25 S25 a25 w25;intro a26 w26 A26 S26
  refine sv A26 S26 (opU_and (m := IntKind.u64.wrap ((IntKind.u64.wrap ((shrI p0x 32) * (andU p1y 4294967295))) + (shrI (IntKind.u64.wrap ((andU p0x 4294967295) * (andU p1y 4294967295))) 32))) (n := 4294967295) rfl rfl rfl) rfl rfl ?_
  clear A26 S26 a26 w26;intro a27 w27 A27 S27
  refine sv A27 S27 (opT_assign (v := .int .u64 (andU (IntKind.u64.wrap ((IntKind.u64.wrap ((shrI p0x 32) * (andU p1y 4294967295))) + (shrI (IntKind.u64.wrap ((andU p0x 4294967295) * (andU p1y 4294967295))) 32))) 4294967295)) rfl rfl) rfl rfl ?_
  clear A27 S27 a27 w27;intro a28 w28 A28 S28
  refine wpList_nil ?_
  replace A28 := A28.pick' (L' := [(0, .int .u64 p0x), (1, .int .u64 p1y), (6, .int .u64 (andU p0x 4294967295)), (7, .int .u64 (shrI p0x 32)), (9, .int .u64 (shrI p1y 32)), (11, .int .u64 (IntKind.u64.wrap ((IntKind.u64.wrap ((shrI p0x 32) * (andU p1y 4294967295))) + (shrI (IntKind.u64.wrap ((andU p0x 4294967295) * (andU p1y 4294967295))) 32)))), (12, .int .u64 (andU (IntKind.u64.wrap ((IntKind.u64.wrap ((shrI p0x 32) * (andU p1y 4294967295))) + (shrI (IntKind.u64.wrap ((andU p0x 4294967295) * (andU p1y 4294967295))) 32))) 4294967295))]) ⟨rfl, rfl, rfl, rfl, rfl, rfl, rfl, trivial⟩
  refine nrm ?_
  refine wp_seq ?_
  refine wp_region_lit ?_
  refine sv A28 S28 (opT_move (v := .int .u64 (IntKind.u64.wrap ((IntKind.u64.wrap ((shrI p0x 32) * (andU p1y 4294967295))) + (shrI (IntKind.u64.wrap ((andU p0x 4294967295) * (andU p1y 4294967295))) 32)))) rfl rfl) rfl rfl ?_
  clear A28 S28 a28 w28;intro a29 w29 A29 S29
  refine sv A29 S29 (opU_shr (m := IntKind.u64.wrap ((IntKind.u64.wrap ((shrI p0x 32) * (andU p1y 4294967295))) + (shrI (IntKind.u64.wrap ((andU p0x 4294967295) * (andU p1y 4294967295))) 32))) (n := 32) rfl rfl rfl (by decide)) rfl rfl ?_
  clear A29 S29 a29 w29;intro a30 w30 A30 S30
  refine sv A30 S30 (opT_assign (v := .int .u64 (shrI (IntKind.u64.wrap ((IntKind.u64.wrap ((shrI p0x 32) * (andU p1y 4294967295))) + (shrI (IntKind.u64.wrap ((andU p0x 4294967295) * (andU p1y 4294967295))) 32))) 32)) rfl rfl) rfl rfl ?_
  clear A30 S30 a30 w30;intro a31 w31 A31 S31
  refine wpList_nil ?_
  replace A31 := A31.pick' (L' := [(0, .int .u64 p0x), (1, .int .u64 p1y), (6, .int .u64 (andU p0x 4294967295)), (7, .int .u64 (shrI p0x 32)), (9, .int .u64 (shrI p1y 32)), (12, .int .u64 (andU (IntKind.u64.wrap ((IntKind.u64.wrap ((shrI p0x 32) * (andU p1y 4294967295))) + (shrI (IntKind.u64.wrap ((andU p0x 4294967295) * (andU p1y 4294967295))) 32))) 4294967295)), (13, .int .u64 (shrI (IntKind.u64.wrap ((IntKind.u64.wrap ((shrI p0x 32) * (andU p1y 4294967295))) + (shrI (IntKind.u64.wrap ((andU p0x 4294967295) * (andU p1y 4294967295))) 32))) 32))]) ⟨rfl, rfl, rfl, rfl, rfl, rfl, rfl, trivial⟩
  refine nrm ?_
  refine wp_seq ?_
  refine wp_region_lit ?_
  refine sv A31 S31 (opT_move (v := .int .u64 (andU (IntKind.u64.wrap ((IntKind.u64.wrap ((shrI p0x 32) * (andU p1y 4294967295))) + (shrI (IntKind.u64.wrap ((andU p0x 4294967295) * (andU p1y 4294967295))) 32))) 4294967295)) rfl rfl) rfl rfl ?_
  clear A31 S31 a31 w31;intro a32 w32 A32 S32
  refine sv A32 S32 (opT_move (v := .int .u64 (andU p0x 4294967295)) rfl rfl) rfl rfl ?_
  clear A32 S32 a32 w32;intro a33 w33 A33 S33
  refine sv A33 S33 (opT_move (v := .int .u64 (shrI p1y 32)) rfl rfl) rfl rfl ?_
  clear A33 S33 a33 w33;intro a34 w34 A34 S34
  refine sv A34 S34 (opU_mul (m := andU p0x 4294967295) (n := shrI p1y 32) rfl rfl rfl) rfl rfl ?_
  clear A34 S34 a34 w34;intro a35 w35 A35 S35
  refine sv A35 S35 (opU_add (m := andU (IntKind.u64.wrap ((IntKind.u64.wrap ((shrI p0x 32) * (andU p1y 4294967295))) + (shrI (IntKind.u64.wrap ((andU p0x 4294967295) * (andU p1y 4294967295))) 32))) 4294967295) (n := IntKind.u64.wrap ((andU p0x 4294967295) * (shrI p1y 32))) rfl rfl rfl) rfl rfl ?_
  clear A35 S35 a35 w35;intro a36 w36 A36 S36
  refine sv A36 S36 (opT_assign (v := .int .u64 (IntKind.u64.wrap ((andU (IntKind.u64.wrap ((IntKind.u64.wrap ((shrI p0x 32) * (andU p1y 4294967295))) + (shrI (IntKind.u64.wrap ((andU p0x 4294967295) * (andU p1y 4294967295))) 32))) 4294967295) + (IntKind.u64.wrap ((andU p0x 4294967295) * (shrI p1y 32)))))) rfl rfl) rfl rfl ?_
  clear A36 S36 a36 w36;intro a37 w37 A37 S37
  refine wpList_nil ?_
  replace A37 := A37.pick' (L' := [(0, .int .u64 p0x), (1, .int .u64 p1y), (7, .int .u64 (shrI p0x 32)), (9, .int .u64 (shrI p1y 32)), (12, .int .u64 (IntKind.u64.wrap ((andU (IntKind.u64.wrap ((IntKind.u64.wrap ((shrI p0x 32) * (andU p1y 4294967295))) + (shrI (IntKind.u64.wrap ((andU p0x 4294967295) * (andU p1y 4294967295))) 32))) 4294967295) + (IntKind.u64.wrap ((andU p0x 4294967295) * (shrI p1y 32)))))), (13, .int .u64 (shrI (IntKind.u64.wrap ((IntKind.u64.wrap ((shrI p0x 32) * (andU p1y 4294967295))) + (shrI (IntKind.u64.wrap ((andU p0x 4294967295) * (andU p1y 4294967295))) 32))) 32))]) ⟨rfl, rfl, rfl, rfl, rfl, rfl, trivial⟩
  refine nrm ?_
  refine wp_seq ?_
  refine wp_region_lit ?_
  refine sv A37 S37 (opT_move (v := .int .u64 (shrI p0x 32)) rfl rfl) rfl rfl ?_
  clear A37 S37 a37 w37;intro a38 w38 A38 S38
  refine sv A38 S38 (opT_move (v := .int .u64 (shrI p1y 32)) rfl rfl) rfl rfl ?_
  clear A38 S38 a38 w38;intro a39 w39 A39 S39
  refine sv A39 S39 (opU_mul (m := shrI p0x 32) (n := shrI p1y 32) rfl rfl rfl) rfl rfl ?_
  clear A39 S39 a39 w39;intro a40 w40 A40 S40
  refine sv A40 S40 (opT_move (v := .int .u64 (shrI (IntKind.u64.wrap ((IntKind.u64.wrap ((shrI p0x 32) * (andU p1y 4294967295))) + (shrI (IntKind.u64.wrap ((andU p0x 4294967295) * (andU p1y 4294967295))) 32))) 32)) rfl rfl) rfl rfl ?_
  clear A40 S40 a40 w40;intro a41 w41 A41 S41
  refine sv A41 S41 (opU_add (m := IntKind.u64.wrap ((shrI p0x 32) * (shrI p1y 32))) (n := shrI (IntKind.u64.wrap ((IntKind.u64.wrap ((shrI p0x 32) * (andU p1y 4294967295))) + (shrI (IntKind.u64.wrap ((andU p0x 4294967295) * (andU p1y 4294967295))) 32))) 32) rfl rfl rfl) rfl rfl ?_
  clear A41 S41 a41 w41;intro a42 w42 A42 S42
  refine sv A42 S42 (opT_move (v := .int .u64 (IntKind.u64.wrap ((andU (IntKind.u64.wrap ((IntKind.u64.wrap ((shrI p0x 32) * (andU p1y 4294967295))) + (shrI (IntKind.u64.wrap ((andU p0x 4294967295) * (andU p1y 4294967295))) 32))) 4294967295) + (IntKind.u64.wrap ((andU p0x 4294967295) * (shrI p1y 32)))))) rfl rfl) rfl rfl ?_
  clear A42 S42 a42 w42;intro a43 w43 A43 S43
  refine sv A43 S43 (opU_shr (m := IntKind.u64.wrap ((andU (IntKind.u64.wrap ((IntKind.u64.wrap ((shrI p0x 32) * (andU p1y 4294967295))) + (shrI (IntKind.u64.wrap ((andU p0x 4294967295) * (andU p1y 4294967295))) 32))) 4294967295) + (IntKind.u64.wrap ((andU p0x 4294967295) * (shrI p1y 32))))) (n := 32) rfl rfl rfl (by decide)) rfl rfl ?_
  clear A43 S43 a43 w43;intro a44 w44 A44 S44
  refine sv A44 S44 (opU_add (m := IntKind.u64.wrap ((IntKind.u64.wrap ((shrI p0x 32) * (shrI p1y 32))) + (shrI (IntKind.u64.wrap ((IntKind.u64.wrap ((shrI p0x 32) * (andU p1y 4294967295))) + (shrI (IntKind.u64.wrap ((andU p0x 4294967295) * (andU p1y 4294967295))) 32))) 32))) (n := shrI (IntKind.u64.wrap ((andU (IntKind.u64.wrap ((IntKind.u64.wrap ((shrI p0x 32) * (andU p1y 4294967295))) + (shrI (IntKind.u64.wrap ((andU p0x 4294967295) * (andU p1y 4294967295))) 32))) 4294967295) + (IntKind.u64.wrap ((andU p0x 4294967295) * (shrI p1y 32))))) 32) rfl rfl rfl) rfl rfl ?_
  clear A44 S44 a44 w44;intro a45 w45 A45 S45
  refine sv A45 S45 (opT_assign (v := .int .u64 (IntKind.u64.wrap ((IntKind.u64.wrap ((IntKind.u64.wrap ((shrI p0x 32) * (shrI p1y 32))) + (shrI (IntKind.u64.wrap ((IntKind.u64.wrap ((shrI p0x 32) * (andU p1y 4294967295))) + (shrI (IntKind.u64.wrap ((andU p0x 4294967295) * (andU p1y 4294967295))) 32))) 32))) + (shrI (IntKind.u64.wrap ((andU (IntKind.u64.wrap ((IntKind.u64.wrap ((shrI p0x 32) * (andU p1y 4294967295))) + (shrI (IntKind.u64.wrap ((andU p0x 4294967295) * (andU p1y 4294967295))) 32))) 4294967295) + (IntKind.u64.wrap ((andU p0x 4294967295) * (shrI p1y 32))))) 32)))) rfl rfl) rfl rfl ?_
  clear A45 S45 a45 w45;intro a46 w46 A46 S46
  refine wpList_nil ?_
  replace A46 := A46.pick' (L' := [(0, .int .u64 p0x), (1, .int .u64 p1y), (4, .int .u64 (IntKind.u64.wrap ((IntKind.u64.wrap ((IntKind.u64.wrap ((shrI p0x 32) * (shrI p1y 32))) + (shrI (IntKind.u64.wrap ((IntKind.u64.wrap ((shrI p0x 32) * (andU p1y 4294967295))) + (shrI (IntKind.u64.wrap ((andU p0x 4294967295) * (andU p1y 4294967295))) 32))) 32))) + (shrI (IntKind.u64.wrap ((andU (IntKind.u64.wrap ((IntKind.u64.wrap ((shrI p0x 32) * (andU p1y 4294967295))) + (shrI (IntKind.u64.wrap ((andU p0x 4294967295) * (andU p1y 4294967295))) 32))) 4294967295) + (IntKind.u64.wrap ((andU p0x 4294967295) * (shrI p1y 32))))) 32))))]) ⟨rfl, rfl, rfl, trivial⟩
  refine nrm ?_
  refine wp_seq ?_
  refine wp_region_lit ?_
  refine sv A46 S46 (opT_move (v := .int .u64 p0x) rfl rfl) rfl rfl ?_
  clear A46 S46 a46 w46;intro a47 w47 A47 S47
  refine sv A47 S47 (opT_move (v := .int .u64 p1y) rfl rfl) rfl rfl ?_
  clear A47 S47 a47 w47;intro a48 w48 A48 S48
  refine sv A48 S48 (opU_mul (m := p0x) (n := p1y) rfl rfl rfl) rfl rfl ?_
  clear A48 S48 a48 w48;intro a49 w49 A49 S49
  refine sv A49 S49 (opT_assign (v := .int .u64 (IntKind.u64.wrap (p0x * p1y))) rfl rfl) rfl rfl ?_
  clear A49 S49 a49 w49;intro a50 w50 A50 S50
  refine wpList_nil ?_
  replace A50 := A50.pick' (L' := [(4, .int .u64 (IntKind.u64.wrap ((IntKind.u64.wrap ((IntKind.u64.wrap ((shrI p0x 32) * (shrI p1y 32))) + (shrI (IntKind.u64.wrap ((IntKind.u64.wrap ((shrI p0x 32) * (andU p1y 4294967295))) + (shrI (IntKind.u64.wrap ((andU p0x 4294967295) * (andU p1y 4294967295))) 32))) 32))) + (shrI (IntKind.u64.wrap ((andU (IntKind.u64.wrap ((IntKind.u64.wrap ((shrI p0x 32) * (andU p1y 4294967295))) + (shrI (IntKind.u64.wrap ((andU p0x 4294967295) * (andU p1y 4294967295))) 32))) 4294967295) + (IntKind.u64.wrap ((andU p0x 4294967295) * (shrI p1y 32))))) 32)))), (5, .int .u64 (IntKind.u64.wrap (p0x * p1y)))]) ⟨rfl, rfl, trivial⟩
  refine nrm ?_
  refine wp_ret ?_
  obtain rfl := Option.some.inj hm
  exact ret_2 A50 rfl (res_tmp A50 rfl) (res_tmp A50 rfl) ⟨_, rfl, rfl, _, Hp.le.rfl, St.sel (S50) 1 [0] rfl rfl⟩
set_option maxHeartbeats 8000000 in
theorem c_s_l12Key (p0a : Int × (List Bool) × (List (List Int))) (p1classes : List Int) (p2s : Int) (r : List Int) (hm : m_s_l12Key p0a p1classes p2s = some r) {I : Hp} {w0 : World} (va0 : Value) (va1 : Value) (va2 : Value) (ra0 : (rSlice 4 rBool).rd I [va0] p0a.2.1) (ra1 : (rSlice 34 (rSlice 3 rInt)).rd I [va1] p0a.2.2) (ra2 : (rSlice 3 rInt).rd I [va2] p1classes) : Con Try.prog 150 #[.agg #[.int .i64 p0a.1, va0, va1], va2, .int .i64 p2s] I w0 [] (fun v => True) (fun v => [Ch.own (rSlice 3 rInt) [v] r]) := by
  refine con_of_wp (n := 40) [(0, .agg #[.int .i64 p0a.1, va0, va1]), (1, va2), (2, .int .i64 p2s)] Try.func150 rfl rfl (Nat.le_of_ble_eq_true rfl) (args_all ⟨rfl, rfl, rfl, trivial⟩) (fun F w a ha hs => ?_) (fun v => ⟨dp_own (dp_slice dp_int), trivial⟩)
  unfold m_s_l12Key at hm
  refine wp_seq ?_
  refine wp_region_lit ?_
  refine seq_op ha hs rfl (opT_box (u := .agg #[.int .i64 p0a.1, va0, va1]) (l := [.int .i64 p0a.1, va0, va1]) rfl rfl rfl) (List.Perm.refl _) rfl ?_
  rintro _ a1 w1 ⟨g1, rfl⟩ A1 (S1 : St I w0 w1 [Ch.blk g1 [.int .i64 p0a.1, va0, va1] 27, F])
  clear ha hs a w
  refine sv A1 S1 (opT_assign (v := .slice none 0 0) rfl rfl) rfl rfl ?_
  clear A1 S1 a1 w1;intro a2 w2 A2 S2
  refine wpList_nil ?_
  replace A2 := A2.pick' (L' := [(1, va2), (2, .int .i64 p2s), (3, .pointer (some ⟨g1, 0, none⟩))]) ⟨rfl, rfl, rfl, trivial⟩
  refine nrm ?_
  refine wp_seq ?_
  refine wp_region_lit ?_
  refine sv A2 S2 (opT_move (v := va2) rfl rfl) rfl rfl ?_
  clear A2 S2 a2 w2;intro a3 w3 A3 S3
  refine sv A3 S3 (opT_move (v := .int .i64 p2s) rfl rfl) rfl rfl ?_
  clear A3 S3 a3 w3;intro a4 w4 A4 S4
  obtain ⟨x1, e1, hm⟩ := bind_some hm
  refine sv A4 S4 (opT_index_hd (xs := p1classes) (i := p2s) (n := 1) (Hd.of_rd ra2) Try.underlying34 ti3 rfl rfl rfl (getI_in e1)) rfl rfl ?_
  clear A4 S4 a4 w4;intro a5 w5 A5 S5
  refine seq_op0 A5 S5 (opT_load_el (S := rInt) (xs := p1classes) (a := x1) (i := p2s) (k := 1) (off := 0) (f := fun (x : Int) => x) ra2 e1 Fld.self ti3 rfl rfl rfl rfl rfl) rfl rfl ?_
  rintro u a6 w6 hf A6 S6
  obtain rfl := lds_one hf
  clear A5 S5 a5 w5
  refine seq_op A6 S6 rfl (opT_lit_cpy (E := 3) (R := rInt) (S := rInt) [(.int .i64 x1, [.int .i64 x1])] [x1] cpy_int (rd_all ⟨rfl, trivial⟩) Try.underlying34 tz3 (by decide) rfl (by decide) (by decide) rfl rfl rfl rfl (us_all ⟨⟨rfl, rfl⟩, trivial⟩)) (List.Perm.refl _) rfl ?_
  rintro v1 a7 w7 - A7 (S7 : St I w0 w7 [Ch.own (rSlice 3 rInt) [v1] ([x1]), Ch.blk g1 [.int .i64 p0a.1, va0, va1] 27, F])
  clear A6 S6 a6 w6
  refine sv A7 S7 (opT_assign (v := v1) rfl rfl) rfl rfl ?_
  clear A7 S7 a7 w7;intro a8 w8 A8 S8
  refine wpList_nil ?_
  replace A8 := A8.pick' (L' := [(1, va2), (2, .int .i64 p2s), (3, .pointer (some ⟨g1, 0, none⟩)), (7, v1)]) ⟨rfl, rfl, rfl, rfl, trivial⟩
  refine nrm ?_
  refine wp_seq ?_
  refine wp_seq ?_
  refine wp_region_lit ?_
  refine sv A8 S8 (opT_assign (v := .int .i64 0) rfl rfl) rfl rfl ?_
  clear A8 S8 a8 w8;intro a9 w9 A9 S9
  refine wpList_nil ?_
  replace A9 := A9.pick' (L' := [(1, va2), (2, .int .i64 p2s), (3, .pointer (some ⟨g1, 0, none⟩)), (7, v1), (8, .int .i64 0)]) ⟨rfl, rfl, rfl, rfl, rfl, trivial⟩
  refine nrm ?_
  obtain ⟨o3, hl1, hc3⟩ := bindL_some hm
  refine wp_cut (fun a w => ∃ s6 : (List Int) × Int, o3 = .brk s6 ∧ ∃ v25 : Value, Agr 40 a [(7, v25)] ∧ St I w0 w [Ch.own (rSlice 3 rInt) [v25] s6.1, F]) ?_ ?_
  · refine wp_block (wp_loopM (R := List Int) (S := (List Int) × Int) (fun s5 a w => ∃ v26 : Value, Agr 40 a [(1, va2), (2, .int .i64 p2s), (3, .pointer (some ⟨g1, 0, none⟩)), (7, v26), (8, .int .i64 s5.2)] ∧ St I w0 w [Ch.own (rSlice 3 rInt) [v26] s5.1, Ch.blk g1 [.int .i64 p0a.1, va0, va1] 27, F]) hl1 ?_ ?_)
    · exact ⟨v1, A9.pick' ⟨rfl, rfl, rfl, rfl, rfl, trivial⟩, St.sel S9 3 [0, 1, 2] rfl rfl⟩
    · rintro s5 o4 hm hf1 a114 w114 ⟨v26, A114, S114⟩
      unfold m_s_l12Key_l0 at hm
      refine wp_seq ?_
      refine wp_seq ?_
      refine wp_region_lit ?_
      refine sv A114 S114 (opT_move (v := .int .i64 s5.2) rfl rfl) rfl rfl ?_
      clear A114 S114 a114 w114;intro a115 w115 A115 S115
      refine sv A115 S115 (opT_cmp (k := .i64) (m := s5.2) (n := 9) (c := decide (s5.2 < 9)) rfl rfl rfl rfl rfl) rfl rfl ?_
      clear A115 S115 a115 w115;intro a116 w116 A116 S116
      refine wpList_nil ?_
      replace A116 := A116.pick' (L' := [(1, va2), (2, .int .i64 p2s), (3, .pointer (some ⟨g1, 0, none⟩)), (7, v26), (8, .int .i64 s5.2), (16, .bool (decide (s5.2 < 9)))]) ⟨rfl, rfl, rfl, rfl, rfl, rfl, trivial⟩
      refine nrm ?_
      rcases two (decide (s5.2 < 9)) with hb7 | hb7
      · replace hm := ifFe hb7 hm
        refine cnd_false (b := decide (s5.2 < 9)) A116 rfl rfl hb7 ?_
        refine wp_exit ?_
        refine thenX ?_
        refine thenX ?_
        refine ex_in ?_
        refine nrm ?_
        exact ⟨_, loopBrk hm hf1, ⟨v26, A116.pick' ⟨rfl, trivial⟩, St.sel S116 3 [0, 2] rfl rfl⟩⟩
      · replace hm := ifTe hb7 hm
        refine cnd_true (b := decide (s5.2 < 9)) A116 rfl rfl hb7 ?_
        refine wp_skip ?_
        refine nrm ?_
        obtain ⟨s7, hj3, hm⟩ := bind_some hm
        refine wp_seq_cut (fun a w => ∃ v32 : Value, Agr 40 a [(1, va2), (2, .int .i64 p2s), (3, .pointer (some ⟨g1, 0, none⟩)), (7, v32), (8, .int .i64 s5.2)] ∧ St I w0 w [Ch.own (rSlice 3 rInt) [v32] s7, Ch.blk g1 [.int .i64 p0a.1, va0, va1] 27, F]) ?_ ?_
        · replace hm := hj3
          refine wp_block ?_
          refine wp_seq ?_
          refine wp_region_lit ?_
          refine sv A116 S116 (opT_field_addr (g := g1) (b := 0) tf27_2 rfl rfl) rfl rfl ?_
          clear A116 S116 a116 w116;intro a140 w140 A140 S140
          refine seq_op A140 S140 rfl (opT_load_blk (g := g1) (off := 2) (E := 27) (l := [.int .i64 p0a.1, va0, va1]) (d := [va1]) (u := va1) ti23 rfl rfl rfl rfl rfl rfl) (perm_front (i := 1) rfl) rfl ?_
          rintro u a141 w141 hf A141 (S141 : St I w0 w141 [Ch.blk g1 [.int .i64 p0a.1, va0, va1] 27, Ch.own (rSlice 3 rInt) [v26] s5.1, F])
          obtain rfl := Eq.symm hf
          clear A140 S140 a140 w140
          refine sv A141 S141 (opT_move (v := .int .i64 p2s) rfl rfl) rfl rfl ?_
          clear A141 S141 a141 w141;intro a142 w142 A142 S142
          obtain ⟨x17, e27, hm⟩ := bind_some hm
          refine sv A142 S142 (opT_index_hd (xs := p0a.2.2) (i := p2s) (n := 1) (Hd.of_rd ra1) Try.underlying23 ti34 rfl rfl rfl (getI_in e27)) rfl rfl ?_
          clear A142 S142 a142 w142;intro a143 w143 A143 S143
          refine seq_op0 A143 S143 (opT_load_el (S := rSlice 3 rInt) (xs := p0a.2.2) (a := x17) (i := p2s) (k := 1) (off := 0) (f := fun (x : List Int) => x) ra1 e27 Fld.self ti34 rfl rfl rfl rfl rfl) rfl rfl ?_
          rintro v33 a144 w144 hf A144 S144
          have r6 := lds_sl hf
          clear hf
          clear A143 S143 a143 w143
          refine sv A144 S144 (opT_move (v := .int .i64 s5.2) rfl rfl) rfl rfl ?_
          clear A144 S144 a144 w144;intro a145 w145 A145 S145
          obtain ⟨x18, e28, hm⟩ := bind_some hm
          refine sv A145 S145 (opT_index_hd (xs := x17) (i := s5.2) (n := 1) (Hd.of_rd r6) Try.underlying34 ti3 rfl rfl rfl (getI_in e28)) rfl rfl ?_
          clear A145 S145 a145 w145;intro a146 w146 A146 S146
          refine seq_op0 A146 S146 (opT_load_el (S := rInt) (xs := x17) (a := x18) (i := s5.2) (k := 1) (off := 0) (f := fun (x : Int) => x) r6 e28 Fld.self ti3 rfl rfl rfl rfl rfl) rfl rfl ?_
          rintro u a147 w147 hf A147 S147
          obtain rfl := lds_one hf
          clear A146 S146 a146 w146
          refine sv A147 S147 (opT_assign (v := .int .i64 x18) rfl rfl) rfl rfl ?_
          clear A147 S147 a147 w147;intro a148 w148 A148 S148
          refine wpList_nil ?_
          replace A148 := A148.pick' (L' := [(1, va2), (2, .int .i64 p2s), (3, .pointer (some ⟨g1, 0, none⟩)), (7, v26), (8, .int .i64 s5.2), (9, .int .i64 x18)]) ⟨rfl, rfl, rfl, rfl, rfl, rfl, trivial⟩
          refine nrm ?_
          refine wp_seq ?_
          refine wp_region_lit ?_
          refine sv A148 S148 (opT_move (v := .int .i64 x18) rfl rfl) rfl rfl ?_
          clear A148 S148 a148 w148;intro a149 w149 A149 S149
          refine sv A149 S149 (opT_cmp (k := .i64) (m := x18) (n := 0) (c := decide (x18 < 0)) rfl rfl rfl rfl rfl) rfl rfl ?_
          clear A149 S149 a149 w149;intro a150 w150 A150 S150
          refine wpList_nil ?_
          replace A150 := A150.pick' (L' := [(1, va2), (2, .int .i64 p2s), (3, .pointer (some ⟨g1, 0, none⟩)), (7, v26), (8, .int .i64 s5.2), (9, .int .i64 x18), (28, .bool (decide (x18 < 0)))]) ⟨rfl, rfl, rfl, rfl, rfl, rfl, rfl, trivial⟩
          refine nrm ?_
          rcases two (decide (x18 < 0)) with hb9 | hb9
          · replace hm := ifFe hb9 hm
            refine cnd_false (b := decide (x18 < 0)) A150 rfl rfl hb9 ?_
            refine wp_region_lit ?_
            refine sv A150 S150 (opT_move (v := v26) rfl rfl) rfl rfl ?_
            clear A150 S150 a150 w150;intro a151 w151 A151 S151
            refine sv A151 S151 (opT_move (v := va2) rfl rfl) rfl rfl ?_
            clear A151 S151 a151 w151;intro a152 w152 A152 S152
            refine sv A152 S152 (opT_move (v := .int .i64 x18) rfl rfl) rfl rfl ?_
            clear A152 S152 a152 w152;intro a153 w153 A153 S153
            obtain ⟨x19, e29, hm⟩ := bind_some hm
            refine sv A153 S153 (opT_index_hd (xs := p1classes) (i := x18) (n := 1) (Hd.of_rd ra2) Try.underlying34 ti3 rfl rfl rfl (getI_in e29)) rfl rfl ?_
            clear A153 S153 a153 w153;intro a154 w154 A154 S154
            refine seq_op0 A154 S154 (opT_load_el (S := rInt) (xs := p1classes) (a := x19) (i := x18) (k := 1) (off := 0) (f := fun (x : Int) => x) ra2 e29 Fld.self ti3 rfl rfl rfl rfl rfl) rfl rfl ?_
            rintro u a155 w155 hf A155 S155
            obtain rfl := lds_one hf
            clear A154 S154 a154 w154
            refine seq_op A155 S155 rfl (opT_lit_cpy (E := 3) (R := rInt) (S := rInt) [(.int .i64 x19, [.int .i64 x19])] [x19] cpy_int (rd_all ⟨rfl, trivial⟩) Try.underlying34 tz3 (by decide) rfl (by decide) (by decide) rfl rfl rfl rfl (us_all ⟨⟨rfl, rfl⟩, trivial⟩)) (List.Perm.refl _) rfl ?_
            rintro v34 a156 w156 - A156 (S156 : St I w0 w156 [Ch.own (rSlice 3 rInt) [v34] ([x19]), Ch.blk g1 [.int .i64 p0a.1, va0, va1] 27, Ch.own (rSlice 3 rInt) [v26] s5.1, F])
            clear A155 S155 a155 w155
            obtain ⟨z11, e30, hm⟩ := bind_some hm
            refine seq_op A156 S156 rfl (opT_app (E := 3) (R := rInt) (s := v26) (u := v34) e30 Try.underlying34 tz3 rfl (by decide) rfl (by decide) rfl rfl rfl) (perm_sel [2, 0, 1, 3] (m := 4) rfl rfl) rfl ?_
            rintro v35 a157 w157 - A157 (S157 : St I w0 w157 [Ch.own (rSlice 3 rInt) [v35] z11, Ch.blk g1 [.int .i64 p0a.1, va0, va1] 27, F])
            clear A156 S156 a156 w156
            refine sv A157 S157 (opT_assign (v := v35) rfl rfl) rfl rfl ?_
            clear A157 S157 a157 w157;intro a158 w158 A158 S158
            refine wpList_nil ?_
            replace A158 := A158.pick' (L' := [(1, va2), (2, .int .i64 p2s), (3, .pointer (some ⟨g1, 0, none⟩)), (7, v35), (8, .int .i64 s5.2)]) ⟨rfl, rfl, rfl, rfl, rfl, trivial⟩
            refine nrmB ?_
            refine nrm ?_
            obtain rfl := Option.some.inj hm
            exact ⟨v35, A158.pick' ⟨rfl, rfl, rfl, rfl, rfl, trivial⟩, St.sel S158 3 [0, 1, 2] rfl rfl⟩
          · replace hm := ifTe hb9 hm
            refine cnd_true (b := decide (x18 < 0)) A150 rfl rfl hb9 ?_
            refine wp_region_lit ?_
            refine sv A150 S150 (opT_move (v := v26) rfl rfl) rfl rfl ?_
            clear A150 S150 a150 w150;intro a159 w159 A159 S159
            refine seq_op A159 S159 rfl (opT_lit_cpy (E := 3) (R := rInt) (S := rInt) [(.int .i64 (-1), [.int .i64 (-1)])] [-1] cpy_int (rd_all ⟨rfl, trivial⟩) Try.underlying34 tz3 (by decide) rfl (by decide) (by decide) rfl rfl rfl rfl (us_all ⟨⟨rfl, rfl⟩, trivial⟩)) (List.Perm.refl _) rfl ?_
            rintro v36 a160 w160 - A160 (S160 : St I w0 w160 [Ch.own (rSlice 3 rInt) [v36] ([-1]), Ch.blk g1 [.int .i64 p0a.1, va0, va1] 27, Ch.own (rSlice 3 rInt) [v26] s5.1, F])
            clear A159 S159 a159 w159
            obtain ⟨z12, e31, hm⟩ := bind_some hm
            refine seq_op A160 S160 rfl (opT_app (E := 3) (R := rInt) (s := v26) (u := v36) e31 Try.underlying34 tz3 rfl (by decide) rfl (by decide) rfl rfl rfl) (perm_sel [2, 0, 1, 3] (m := 4) rfl rfl) rfl ?_
            rintro v37 a161 w161 - A161 (S161 : St I w0 w161 [Ch.own (rSlice 3 rInt) [v37] z12, Ch.blk g1 [.int .i64 p0a.1, va0, va1] 27, F])
            clear A160 S160 a160 w160
            refine sv A161 S161 (opT_assign (v := v37) rfl rfl) rfl rfl ?_
            clear A161 S161 a161 w161;intro a162 w162 A162 S162
            refine wpList_nil ?_
            replace A162 := A162.pick' (L' := [(1, va2), (2, .int .i64 p2s), (3, .pointer (some ⟨g1, 0, none⟩)), (7, v37), (8, .int .i64 s5.2)]) ⟨rfl, rfl, rfl, rfl, rfl, trivial⟩
            refine nrmB ?_
            refine nrm ?_
            obtain rfl := Option.some.inj hm
            exact ⟨v37, A162.pick' ⟨rfl, rfl, rfl, rfl, rfl, trivial⟩, St.sel S162 3 [0, 1, 2] rfl rfl⟩
        · rintro a163 w163 ⟨v32, A163, S163⟩
          refine wp_region_lit ?_
          refine sv A163 S163 (opT_move (v := .int .i64 s5.2) rfl rfl) rfl rfl ?_
          clear A163 S163 a163 w163;intro a164 w164 A164 S164
          refine sv A164 S164 (opT_add (m := s5.2) (n := 1) rfl rfl rfl) rfl rfl ?_
          clear A164 S164 a164 w164;intro a165 w165 A165 S165
          refine sv A165 S165 (opT_assign (v := .int .i64 (IntKind.i64.wrap (s5.2 + 1))) rfl rfl) rfl rfl ?_
          clear A165 S165 a165 w165;intro a166 w166 A166 S166
          refine wpList_nil ?_
          replace A166 := A166.pick' (L' := [(1, va2), (2, .int .i64 p2s), (3, .pointer (some ⟨g1, 0, none⟩)), (7, v32), (8, .int .i64 (IntKind.i64.wrap (s5.2 + 1)))]) ⟨rfl, rfl, rfl, rfl, rfl, trivial⟩
          refine nrm ?_
          exact ⟨_, (Option.some.inj hm).symm, ⟨v32, A166.pick' ⟨rfl, rfl, rfl, rfl, rfl, trivial⟩, St.sel S166 3 [0, 1, 2] rfl rfl⟩⟩
  · rintro a167 w167 ⟨s6, ho4, v25, A167, S167⟩
    replace hm := loopOut ho4 hc3
    clear ho4 hc3 hl1
    refine nrm ?_
    refine wp_seq ?_
    refine wp_region_lit ?_
    refine sv A167 S167 (opT_move (v := v25) rfl rfl) rfl rfl ?_
    clear A167 S167 a167 w167;intro a168 w168 A168 S168
    refine sv A168 S168 (opT_assign (v := v25) rfl rfl) rfl rfl ?_
    clear A168 S168 a168 w168;intro a169 w169 A169 S169
    refine wpList_nil ?_
    replace A169 := A169.pick' (L' := [(6, v25)]) ⟨rfl, trivial⟩
    refine nrm ?_
    refine wp_ret ?_
    obtain rfl := Option.some.inj hm
    exact ret_1 A169 rfl (res_tmp A169 rfl) ⟨_, rfl, trivial, _, Hp.le.rfl, St.sel (S169) 2 [0, 1] rfl rfl⟩
set_option maxHeartbeats 8000000 in
theorem c_w_eqBoolS (p0a : List Bool) (p1b : List Bool) (r : Bool) (hm : m_w_eqBoolS p0a p1b = some r) {I : Hp} {w0 : World} (va0 : Value) (va1 : Value) (ra0 : (rSlice 4 rBool).rd I [va0] p0a) (ra1 : (rSlice 4 rBool).rd I [va1] p1b) : Con Try.prog 53 #[va0, va1] I w0 [] (fun v => v = .bool r) (fun v => []) := by
  refine con_of_wp (n := 26) [(0, va0), (1, va1)] Try.func53 rfl rfl (Nat.le_of_ble_eq_true rfl) (args_all ⟨rfl, rfl, trivial⟩) (fun F w a ha hs => ?_) (fun v => trivial)
  unfold m_w_eqBoolS at hm
  refine wp_seq ?_
  refine wp_region_lit ?_
  refine sv ha hs (opT_assign (v := .bool false) rfl rfl) rfl rfl ?_
  clear ha hs a w;intro a1 w1 A1 S1
  refine wpList_nil ?_
  replace A1 := A1.pick' (L' := [(0, va0), (1, va1)]) ⟨rfl, rfl, trivial⟩
  refine nrm ?_
  refine wp_seq ?_
  refine wp_seq ?_
  refine wp_region_lit ?_
  refine sv A1 S1 (opT_move (v := va0) rfl rfl) rfl rfl ?_
  clear A1 S1 a1 w1;intro a2 w2 A2 S2
  refine sv A2 S2 (opT_len_hd (v := va0) (n := p0a.length) (Hd.of_rd ra0) Try.underlying22 rfl rfl) rfl rfl ?_
  clear A2 S2 a2 w2;intro a3 w3 A3 S3
  refine sv A3 S3 (opT_move (v := va1) rfl rfl) rfl rfl ?_
  clear A3 S3 a3 w3;intro a4 w4 A4 S4
  refine sv A4 S4 (opT_len_hd (v := va1) (n := p1b.length) (Hd.of_rd ra1) Try.underlying22 rfl rfl) rfl rfl ?_
  clear A4 S4 a4 w4;intro a5 w5 A5 S5
  refine sv A5 S5 (opT_cmp (k := .i64) (m := (p0a.length : Int)) (n := (p1b.length : Int)) (c := (p0a.length : Int) != (p1b.length : Int)) rfl rfl rfl rfl rfl) rfl rfl ?_
  clear A5 S5 a5 w5;intro a6 w6 A6 S6
  refine wpList_nil ?_
  replace A6 := A6.pick' (L' := [(0, va0), (1, va1), (10, .bool ((p0a.length : Int) != (p1b.length : Int)))]) ⟨rfl, rfl, rfl, trivial⟩
  refine nrm ?_
  rcases two ((p0a.length : Int) != (p1b.length : Int)) with hb1 | hb1
  · replace hm := ifFe hb1 hm
    refine cnd_false (b := (p0a.length : Int) != (p1b.length : Int)) A6 rfl rfl hb1 ?_
    refine wp_skip ?_
    refine nrm ?_
    refine wp_seq ?_
    refine wp_seq ?_
    refine wp_region_lit ?_
    refine sv A6 S6 (opT_assign (v := .int .i64 0) rfl rfl) rfl rfl ?_
    clear A6 S6 a6 w6;intro a7 w7 A7 S7
    refine wpList_nil ?_
    replace A7 := A7.pick' (L' := [(0, va0), (1, va1), (5, .int .i64 0)]) ⟨rfl, rfl, rfl, trivial⟩
    refine nrm ?_
    obtain ⟨o1, hl1, hc1⟩ := bindL_some hm
    refine wp_cut (fun a w => ∃ s4 : Int, o1 = .brk s4 ∧ Agr 26 a [] ∧ St I w0 w [F]) ?_ ?_
    · refine wp_block (wp_loopM (R := Bool) (S := Int) (fun s3 a w => Agr 26 a [(0, va0), (1, va1), (5, .int .i64 s3)] ∧ St I w0 w [F]) hl1 ?_ ?_)
      · exact ⟨A7.pick' ⟨rfl, rfl, rfl, trivial⟩, St.sel S7 1 [0] rfl rfl⟩
      · rintro s3 o2 hm hf1 a24 w24 ⟨A24, S24⟩
        unfold m_w_eqBoolS_l0 at hm
        refine wp_seq ?_
        refine wp_seq ?_
        refine wp_region_lit ?_
        refine sv A24 S24 (opT_move (v := .int .i64 s3) rfl rfl) rfl rfl ?_
        clear A24 S24 a24 w24;intro a25 w25 A25 S25
        refine sv A25 S25 (opT_move (v := va0) rfl rfl) rfl rfl ?_
        clear A25 S25 a25 w25;intro a26 w26 A26 S26
        refine sv A26 S26 (opT_len_hd (v := va0) (n := p0a.length) (Hd.of_rd ra0) Try.underlying22 rfl rfl) rfl rfl ?_
        clear A26 S26 a26 w26;intro a27 w27 A27 S27
        refine sv A27 S27 (opT_cmp (k := .i64) (m := s3) (n := (p0a.length : Int)) (c := decide (s3 < (p0a.length : Int))) rfl rfl rfl rfl rfl) rfl rfl ?_
        clear A27 S27 a27 w27;intro a28 w28 A28 S28
        refine wpList_nil ?_
        replace A28 := A28.pick' (L' := [(0, va0), (1, va1), (5, .int .i64 s3), (14, .bool (decide (s3 < (p0a.length : Int))))]) ⟨rfl, rfl, rfl, rfl, trivial⟩
        refine nrm ?_
        rcases two (decide (s3 < (p0a.length : Int))) with hb6 | hb6
        · replace hm := ifFe hb6 hm
          refine cnd_false (b := decide (s3 < (p0a.length : Int))) A28 rfl rfl hb6 ?_
          refine wp_exit ?_
          refine thenX ?_
          refine thenX ?_
          refine ex_in ?_
          refine nrm ?_
          exact ⟨_, loopBrk hm hf1, ⟨A28.pick' trivial, St.sel S28 1 [0] rfl rfl⟩⟩
        · replace hm := ifTe hb6 hm
          refine cnd_true (b := decide (s3 < (p0a.length : Int))) A28 rfl rfl hb6 ?_
          refine wp_skip ?_
          refine nrm ?_
          refine wp_seq ?_
          refine wp_block ?_
          refine wp_seq ?_
          obtain ⟨x5, e5, hm⟩ := bind_some hm
          obtain ⟨x6, e6, hm⟩ := bind_some hm
          refine wp_draw (L := [(0, va0), (1, va1), (5, .int .i64 s3), (14, .bool (decide (s3 < (p0a.length : Int))))]) (C := [F]) { ops := [⟨[], [], [], [0], fun | [xo0] => xo0 = va0 | _ => True, [(0, none)]⟩, ⟨[], [], [], [1], fun | [xo1] => xo1 = .int .i64 s3 | _ => True, [(5, none)]⟩, ⟨[], [], [], [2], fun | [xo2] => xo2 = pt va0 (s3.toNat * 1) | _ => True, [(17, some 0), (18, some 1)]⟩, ⟨[], [], [], [3], fun | [xo3] => xo3 = .bool x5 | _ => True, [(19, some 2)]⟩, ⟨[], [], [], [4], fun | [xo4] => xo4 = va1 | _ => True, [(1, none)]⟩, ⟨[], [], [], [5], fun | [xo5] => xo5 = .int .i64 s3 | _ => True, [(5, none)]⟩, ⟨[], [], [], [6], fun | [xo6] => xo6 = pt va1 (s3.toNat * 1) | _ => True, [(21, some 4), (22, some 5)]⟩, ⟨[], [], [], [7], fun | [xo7] => xo7 = .bool x6 | _ => True, [(23, some 6)]⟩, ⟨[], [], [], [8], fun | [xo8] => xo8 = .bool (x5 != x6) | _ => True, [(20, some 3), (24, some 7)]⟩], res := [], base := [], pre := [[], [], [0, 1], [0, 1, 2], [], [], [4, 5], [4, 5, 6], [0, 1, 2, 3, 4, 5, 6, 7]], fin := [(0, none), (1, none), (5, none), (25, some 8)], left := [] } (by kernel_rfl) A28 S28 (perm_sel [0] (m := 1) rfl rfl) (by kernel_rfl) (by kernel_rfl) ?_ ?_
          · exact ⟨Plan.goal_run fun vs hf => ⟨wants_none rfl, OpT.conv (OpT.evs (ev' := evL [(0, va0)]) (opT_move (v := va0) rfl rfl) rfl [.tmp 0] rfl ⟨rfl, trivial⟩) rfl (fun _ h => Eq.trans h rfl) (fun _ => rfl)⟩, Plan.goal_run fun vs hf => ⟨wants_none rfl, OpT.conv (OpT.evs (ev' := evL [(5, .int .i64 s3)]) (opT_move (v := .int .i64 s3) rfl rfl) rfl [.tmp 5] rfl ⟨rfl, trivial⟩) rfl (fun _ h => Eq.trans h rfl) (fun _ => rfl)⟩, Plan.goal_run fun vs hf => ⟨wants_none rfl, OpT.conv (OpT.evs (ev' := evL [(17, va0), (18, .int .i64 s3)]) (opT_index_hd (xs := p0a) (i := s3) (n := 1) (Hd.of_rd ra0) Try.underlying22 ti4 rfl rfl rfl (getI_in e5)) rfl [.tmp 17, .tmp 18] rfl ⟨(hf 0 (mb rfl)), (hf 1 (mb rfl)), trivial⟩) rfl (fun _ h => Eq.trans h rfl) (fun _ => rfl)⟩, Plan.goal_run fun vs hf => ⟨wants_none rfl, OpT.conv (OpT.evs (ev' := evL [(19, pt va0 (s3.toNat * 1))]) (opT_load_el (S := rBool) (xs := p0a) (a := x5) (i := s3) (k := 1) (off := 0) (f := fun (x : Bool) => x) ra0 e5 Fld.self ti4 rfl rfl rfl rfl rfl) rfl [.tmp 19] rfl ⟨(hf 2 (mb rfl)), trivial⟩) rfl (fun _ h => lds_one h) (fun _ => rfl)⟩, Plan.goal_run fun vs hf => ⟨wants_none rfl, OpT.conv (OpT.evs (ev' := evL [(1, va1)]) (opT_move (v := va1) rfl rfl) rfl [.tmp 1] rfl ⟨rfl, trivial⟩) rfl (fun _ h => Eq.trans h rfl) (fun _ => rfl)⟩, Plan.goal_run fun vs hf => ⟨wants_none rfl, OpT.conv (OpT.evs (ev' := evL [(5, .int .i64 s3)]) (opT_move (v := .int .i64 s3) rfl rfl) rfl [.tmp 5] rfl ⟨rfl, trivial⟩) rfl (fun _ h => Eq.trans h rfl) (fun _ => rfl)⟩, Plan.goal_run fun vs hf => ⟨wants_none rfl, OpT.conv (OpT.evs (ev' := evL [(21, va1), (22, .int .i64 s3)]) (opT_index_hd (xs := p1b) (i := s3) (n := 1) (Hd.of_rd ra1) Try.underlying22 ti4 rfl rfl rfl (getI_in e6)) rfl [.tmp 21, .tmp 22] rfl ⟨(hf 4 (mb rfl)), (hf 5 (mb rfl)), trivial⟩) rfl (fun _ h => Eq.trans h rfl) (fun _ => rfl)⟩, Plan.goal_run fun vs hf => ⟨wants_none rfl, OpT.conv (OpT.evs (ev' := evL [(23, pt va1 (s3.toNat * 1))]) (opT_load_el (S := rBool) (xs := p1b) (a := x6) (i := s3) (k := 1) (off := 0) (f := fun (x : Bool) => x) ra1 e6 Fld.self ti4 rfl rfl rfl rfl rfl) rfl [.tmp 23] rfl ⟨(hf 6 (mb rfl)), trivial⟩) rfl (fun _ h => lds_one h) (fun _ => rfl)⟩, Plan.goal_run fun vs hf => ⟨wants_none rfl, OpT.conv (OpT.evs (ev' := evL [(20, .bool x5), (24, .bool x6)]) (opT_neb (b := x5) (c := x6) Try.underlying4 rfl rfl rfl) rfl [.tmp 20, .tmp 24] rfl ⟨(hf 3 (mb rfl)), (hf 7 (mb rfl)), trivial⟩) rfl (fun _ h => Eq.trans h rfl) (fun _ => rfl)⟩, trivial⟩
          intro vs a29 w29 hf A29 S29
          clear A28 S28
          replace A29 := A29.pick' (L' := [(0, va0), (1, va1), (5, .int .i64 s3), (25, .bool (x5 != x6))]) ⟨rfl, rfl, rfl, (congrArg some (show _ = _ from (hf 8 (Nat.le_of_ble_eq_true rfl)))), trivial⟩
          replace S29 : St I w0 w29 [F] := S29
          clear hf vs
          refine nrm ?_
          rcases two (x5 != x6) with hb7 | hb7
          · replace hm := ifFe hb7 hm
            refine cnd_false (b := x5 != x6) A29 rfl rfl hb7 ?_
            refine wp_skip ?_
            refine nrmB ?_
            refine nrm ?_
            refine wp_region_lit ?_
            refine sv A29 S29 (opT_move (v := .int .i64 s3) rfl rfl) rfl rfl ?_
            clear A29 S29 a29 w29;intro a30 w30 A30 S30
            refine sv A30 S30 (opT_add (m := s3) (n := 1) rfl rfl rfl) rfl rfl ?_
            clear A30 S30 a30 w30;intro a31 w31 A31 S31
            refine sv A31 S31 (opT_assign (v := .int .i64 (IntKind.i64.wrap (s3 + 1))) rfl rfl) rfl rfl ?_
            clear A31 S31 a31 w31;intro a32 w32 A32 S32
            refine wpList_nil ?_
            replace A32 := A32.pick' (L' := [(0, va0), (1, va1), (5, .int .i64 (IntKind.i64.wrap (s3 + 1)))]) ⟨rfl, rfl, rfl, trivial⟩
            refine nrm ?_
            exact ⟨_, (Option.some.inj hm).symm, ⟨A32.pick' ⟨rfl, rfl, rfl, trivial⟩, St.sel S32 1 [0] rfl rfl⟩⟩
          · replace hm := ifTe hb7 hm
            refine cnd_true (b := x5 != x6) A29 rfl rfl hb7 ?_
            refine wp_seq ?_
            refine wp_region_lit ?_
            refine sv A29 S29 (opT_assign (v := .bool false) rfl rfl) rfl rfl ?_
            clear A29 S29 a29 w29;intro a33 w33 A33 S33
            refine wpList_nil ?_
            replace A33 := A33.pick' (L' := [(4, .bool false)]) ⟨rfl, trivial⟩
            refine nrm ?_
            refine wp_ret ?_
            refine blkR ?_
            refine thenR ?_
            refine thenR ?_
            refine blkR ?_
            refine thenR ?_
            refine thenR ?_
            replace hm := loopRet hm hf1 hc1
            obtain rfl := Option.some.inj hm
            exact ret_1 A33 rfl (res_tmp A33 rfl) ⟨_, rfl, rfl, _, Hp.le.rfl, St.sel (S33) 1 [0] rfl rfl⟩
    · rintro a34 w34 ⟨s4, ho1, A34, S34⟩
      replace hm := loopOut ho1 hc1
      clear ho1 hc1 hl1
      refine nrm ?_
      refine wp_seq ?_
      refine wp_region_lit ?_
      refine sv A34 S34 (opT_assign (v := .bool true) rfl rfl) rfl rfl ?_
      clear A34 S34 a34 w34;intro a35 w35 A35 S35
      refine wpList_nil ?_
      replace A35 := A35.pick' (L' := [(4, .bool true)]) ⟨rfl, trivial⟩
      refine nrm ?_
      refine wp_ret ?_
      obtain rfl := Option.some.inj hm
      exact ret_1 A35 rfl (res_tmp A35 rfl) ⟨_, rfl, rfl, _, Hp.le.rfl, St.sel (S35) 1 [0] rfl rfl⟩
  · replace hm := ifTe hb1 hm
    refine cnd_true (b := (p0a.length : Int) != (p1b.length : Int)) A6 rfl rfl hb1 ?_
    refine wp_seq ?_
    refine wp_region_lit ?_
    refine sv A6 S6 (opT_assign (v := .bool false) rfl rfl) rfl rfl ?_
    clear A6 S6 a6 w6;intro a36 w36 A36 S36
    refine wpList_nil ?_
    replace A36 := A36.pick' (L' := [(4, .bool false)]) ⟨rfl, trivial⟩
    refine nrm ?_
    refine wp_ret ?_
    refine thenR ?_
    obtain rfl := Option.some.inj hm
    exact ret_1 A36 rfl (res_tmp A36 rfl) ⟨_, rfl, rfl, _, Hp.le.rfl, St.sel (S36) 1 [0] rfl rfl⟩
set_option maxHeartbeats 8000000 in
theorem c_g_slices_IndexFunc_S_S_int_S_int (p0s : List (List Int)) (p1f : (List Int) → Option Bool) (r : Int) (hm : m_g_slices_IndexFunc_S_S_int_S_int p0s p1f = some r) {I : Hp} {w0 : World} (va0 : Value) (va1 : Value) (ra0 : (rSlice 34 (rSlice 3 rInt)).rd I [va0] p0s) (ra1 : fn203 w0 I va1 p1f) : Con Try.prog 172 #[va0, va1] I w0 [] (fun v => v = .int .i64 r) (fun v => []) := by
  refine con_of_wp (n := 19) [(0, va0), (1, va1)] Try.func172 rfl rfl (Nat.le_of_ble_eq_true rfl) (args_all ⟨rfl, rfl, trivial⟩) (fun F w a ha hs => ?_) (fun v => trivial)
  unfold m_g_slices_IndexFunc_S_S_int_S_int at hm
  refine wp_seq ?_
  refine wp_region_lit ?_
  refine sv ha hs (opT_assign (v := .int .i64 0) rfl rfl) rfl rfl ?_
  clear ha hs a w;intro a1 w1 A1 S1
  refine wpList_nil ?_
  replace A1 := A1.pick' (L' := [(0, va0), (1, va1)]) ⟨rfl, rfl, trivial⟩
  refine nrm ?_
  refine wp_seq ?_
  refine wp_seq ?_
  refine wp_region_lit ?_
  refine sv A1 S1 (opT_move (v := va0) rfl rfl) rfl rfl ?_
  clear A1 S1 a1 w1;intro a2 w2 A2 S2
  refine sv A2 S2 (opT_len_hd (v := va0) (n := p0s.length) (Hd.of_rd ra0) Try.underlying23 rfl rfl) rfl rfl ?_
  clear A2 S2 a2 w2;intro a3 w3 A3 S3
  refine sv A3 S3 (opT_move (v := .int .i64 0) rfl rfl) rfl rfl ?_
  clear A3 S3 a3 w3;intro a4 w4 A4 S4
  refine wpList_nil ?_
  replace A4 := A4.pick' (L' := [(0, va0), (1, va1), (7, .int .i64 (p0s.length : Int)), (8, .int .i64 0)]) ⟨rfl, rfl, rfl, rfl, trivial⟩
  refine nrm ?_
  obtain ⟨o1, hl1, hc1⟩ := bindL_some hm
  refine wp_cut (fun a w => ∃ s4 : Int, o1 = .brk s4 ∧ Agr 19 a [] ∧ St I w0 w [F]) ?_ ?_
  · refine wp_block (wp_loopM (R := Int) (S := Int) (fun s3 a w => Agr 19 a [(0, va0), (1, va1), (7, .int .i64 (p0s.length : Int)), (8, .int .i64 s3)] ∧ St I w0 w [F]) hl1 ?_ ?_)
    · exact ⟨A4.pick' ⟨rfl, rfl, rfl, rfl, trivial⟩, St.sel S4 1 [0] rfl rfl⟩
    · rintro s3 o2 hm hf1 a31 w31 ⟨A31, S31⟩
      unfold m_g_slices_IndexFunc_S_S_int_S_int_l0 at hm
      refine wp_seq ?_
      refine wp_region_lit ?_
      refine sv A31 S31 (opT_cmp (k := .i64) (m := s3) (n := (p0s.length : Int)) (c := decide (s3 < (p0s.length : Int))) rfl rfl rfl rfl rfl) rfl rfl ?_
      clear A31 S31 a31 w31;intro a32 w32 A32 S32
      refine wpList_nil ?_
      replace A32 := A32.pick' (L' := [(0, va0), (1, va1), (7, .int .i64 (p0s.length : Int)), (8, .int .i64 s3), (9, .bool (decide (s3 < (p0s.length : Int))))]) ⟨rfl, rfl, rfl, rfl, rfl, trivial⟩
      refine nrm ?_
      refine wp_seq ?_
      rcases two (decide (s3 < (p0s.length : Int))) with hb5 | hb5
      · replace hm := ifFe hb5 hm
        refine cnd_false (b := decide (s3 < (p0s.length : Int))) A32 rfl rfl hb5 ?_
        refine wp_exit ?_
        refine thenX ?_
        refine thenX ?_
        refine ex_in ?_
        refine nrm ?_
        exact ⟨_, loopBrk hm hf1, ⟨A32.pick' trivial, St.sel S32 1 [0] rfl rfl⟩⟩
      · replace hm := ifTe hb5 hm
        refine cnd_true (b := decide (s3 < (p0s.length : Int))) A32 rfl rfl hb5 ?_
        refine wp_skip ?_
        refine nrm ?_
        refine wp_seq ?_
        refine wp_block ?_
        refine wp_seq ?_
        refine wp_region_lit ?_
        refine sv A32 S32 (opT_move (v := .int .i64 s3) rfl rfl) rfl rfl ?_
        clear A32 S32 a32 w32;intro a33 w33 A33 S33
        refine sv A33 S33 (opT_assign (v := .int .i64 s3) rfl rfl) rfl rfl ?_
        clear A33 S33 a33 w33;intro a34 w34 A34 S34
        refine wpList_nil ?_
        replace A34 := A34.pick' (L' := [(0, va0), (1, va1), (5, .int .i64 s3), (7, .int .i64 (p0s.length : Int)), (8, .int .i64 s3)]) ⟨rfl, rfl, rfl, rfl, rfl, trivial⟩
        refine nrm ?_
        refine wp_seq ?_
        refine wp_region_lit ?_
        refine sv A34 S34 (opT_move (v := va1) rfl rfl) rfl rfl ?_
        clear A34 S34 a34 w34;intro a35 w35 A35 S35
        refine sv A35 S35 (opT_move (v := va0) rfl rfl) rfl rfl ?_
        clear A35 S35 a35 w35;intro a36 w36 A36 S36
        refine sv A36 S36 (opT_move (v := .int .i64 s3) rfl rfl) rfl rfl ?_
        clear A36 S36 a36 w36;intro a37 w37 A37 S37
        obtain ⟨x3, e5, hm⟩ := bind_some hm
        refine sv A37 S37 (opT_index_hd (xs := p0s) (i := s3) (n := 1) (Hd.of_rd ra0) Try.underlying23 ti34 rfl rfl rfl (getI_in e5)) rfl rfl ?_
        clear A37 S37 a37 w37;intro a38 w38 A38 S38
        refine seq_op0 A38 S38 (opT_load_el (S := rSlice 3 rInt) (xs := p0s) (a := x3) (i := s3) (k := 1) (off := 0) (f := fun (x : List Int) => x) ra0 e5 Fld.self ti34 rfl rfl rfl rfl rfl) rfl rfl ?_
        rintro v3 a39 w39 hf A39 S39
        have r5 := lds_sl hf
        clear hf
        clear A38 S38 a38 w38
        obtain ⟨r6, e6, hm⟩ := bind_some hm
        refine seq_op0 A39 S39 (opT_call_clo (v := va1) (args := [v3]) (ra1.2 _ Hp.le.rfl x3 _ e6 v3 r5) rfl rfl rfl) rfl rfl ?_
        rintro u a40 w40 hf A40 S40
        obtain rfl := Eq.symm hf
        clear A39 S39 a39 w39
        refine wpList_nil ?_
        replace A40 := A40.pick' (L' := [(0, va0), (1, va1), (5, .int .i64 s3), (7, .int .i64 (p0s.length : Int)), (8, .int .i64 s3), (16, .bool r6)]) ⟨rfl, rfl, rfl, rfl, rfl, rfl, trivial⟩
        refine nrm ?_
        rcases two (r6) with hb6 | hb6
        · replace hm := ifFe hb6 hm
          refine cnd_false (b := r6) A40 rfl rfl hb6 ?_
          refine wp_skip ?_
          refine nrmB ?_
          refine nrm ?_
          refine wp_region_lit ?_
          refine sv A40 S40 (opT_add (m := s3) (n := 1) rfl rfl rfl) rfl rfl ?_
          clear A40 S40 a40 w40;intro a41 w41 A41 S41
          refine sv A41 S41 (opT_move (v := .int .i64 (IntKind.i64.wrap (s3 + 1))) rfl rfl) rfl rfl ?_
          clear A41 S41 a41 w41;intro a42 w42 A42 S42
          refine wpList_nil ?_
          replace A42 := A42.pick' (L' := [(0, va0), (1, va1), (7, .int .i64 (p0s.length : Int)), (8, .int .i64 (IntKind.i64.wrap (s3 + 1)))]) ⟨rfl, rfl, rfl, rfl, trivial⟩
          refine nrm ?_
          exact ⟨_, (Option.some.inj hm).symm, ⟨A42.pick' ⟨rfl, rfl, rfl, rfl, trivial⟩, St.sel S42 1 [0] rfl rfl⟩⟩
        · replace hm := ifTe hb6 hm
          refine cnd_true (b := r6) A40 rfl rfl hb6 ?_
          refine wp_seq ?_
          refine wp_region_lit ?_
          refine sv A40 S40 (opT_move (v := .int .i64 s3) rfl rfl) rfl rfl ?_
          clear A40 S40 a40 w40;intro a43 w43 A43 S43
          refine sv A43 S43 (opT_assign (v := .int .i64 s3) rfl rfl) rfl rfl ?_
          clear A43 S43 a43 w43;intro a44 w44 A44 S44
          refine wpList_nil ?_
          replace A44 := A44.pick' (L' := [(4, .int .i64 s3)]) ⟨rfl, trivial⟩
          refine nrm ?_
          refine wp_ret ?_
          refine blkR ?_
          refine thenR ?_
          refine thenR ?_
          refine blkR ?_
          refine thenR ?_
          refine thenR ?_
          replace hm := loopRet hm hf1 hc1
          obtain rfl := Option.some.inj hm
          exact ret_1 A44 rfl (res_tmp A44 rfl) ⟨_, rfl, rfl, _, Hp.le.rfl, St.sel (S44) 1 [0] rfl rfl⟩
  · rintro a45 w45 ⟨s4, ho1, A45, S45⟩
    replace hm := loopOut ho1 hc1
    clear ho1 hc1 hl1
    refine nrm ?_
    refine wp_seq ?_
    refine wp_region_lit ?_
    refine sv A45 S45 (opT_assign (v := .int .i64 (-1)) rfl rfl) rfl rfl ?_
    clear A45 S45 a45 w45;intro a46 w46 A46 S46
    refine wpList_nil ?_
    replace A46 := A46.pick' (L' := [(4, .int .i64 (-1))]) ⟨rfl, trivial⟩
    refine nrm ?_
    refine wp_ret ?_
    obtain rfl := Option.some.inj hm
    exact ret_1 A46 rfl (res_tmp A46 rfl) ⟨_, rfl, rfl, _, Hp.le.rfl, St.sel (S46) 1 [0] rfl rfl⟩
set_option maxHeartbeats 8000000 in
theorem c_w_markBoolS (p0a : List Bool) (p1k : Int) (r : Int × (List Bool)) (hm : m_w_markBoolS p0a p1k = some r) {I : Hp} {w0 : World} (va0 : Value) : Con Try.prog 55 #[va0, .int .i64 p1k] I w0 [Ch.own (rSlice 4 rBool) [va0] p0a] (fun v => v = .int .i64 r.1) (fun v => [Ch.own (rSlice 4 rBool) [va0] r.2]) := by
  refine con_of_wp (n := 21) [(0, va0), (1, .int .i64 p1k)] Try.func55 rfl rfl (Nat.le_of_ble_eq_true rfl) (args_all ⟨rfl, rfl, trivial⟩) (fun F w a ha hs => ?_) (fun v => ⟨dp_own (dp_slice dp_bool), trivial⟩)
  unfold m_w_markBoolS at hm
  refine wp_seq ?_
  refine wp_region_lit ?_
  refine sv ha hs (opT_assign (v := .int .i64 0) rfl rfl) rfl rfl ?_
  clear ha hs a w;intro a1 w1 A1 S1
  refine wpList_nil ?_
  replace A1 := A1.pick' (L' := [(0, va0), (1, .int .i64 p1k)]) ⟨rfl, rfl, trivial⟩
  refine nrm ?_
  refine wp_seq ?_
  refine wp_seq ?_
  refine wp_region_lit ?_
  refine sv A1 S1 (opT_assign (v := .int .i64 0) rfl rfl) rfl rfl ?_
  clear A1 S1 a1 w1;intro a2 w2 A2 S2
  refine wpList_nil ?_
  replace A2 := A2.pick' (L' := [(0, va0), (1, .int .i64 p1k), (5, .int .i64 0)]) ⟨rfl, rfl, rfl, trivial⟩
  refine nrm ?_
  obtain ⟨o1, hl1, hc1⟩ := bindL_some hm
  refine wp_cut (fun a w => ∃ s4 : (List Bool) × Int × Int, o1 = .brk s4 ∧ Agr 21 a [(1, .int .i64 s4.2.1)] ∧ St I w0 w [Ch.own (rSlice 4 rBool) [va0] s4.1, F]) ?_ ?_
  · refine wp_block (wp_loopM (R := Int × (List Bool)) (S := (List Bool) × Int × Int) (fun s3 a w => Agr 21 a [(0, va0), (1, .int .i64 s3.2.1), (5, .int .i64 s3.2.2)] ∧ St I w0 w [Ch.own (rSlice 4 rBool) [va0] s3.1, F]) hl1 ?_ ?_)
    · exact ⟨A2.pick' ⟨rfl, rfl, rfl, trivial⟩, St.sel S2 2 [0, 1] rfl rfl⟩
    · rintro s3 o2 hm hf1 a37 w37 ⟨A37, S37⟩
      unfold m_w_markBoolS_l0 at hm
      refine wp_seq ?_
      refine wp_seq ?_
      refine wp_region_lit ?_
      refine sv A37 S37 (opT_move (v := .int .i64 s3.2.2) rfl rfl) rfl rfl ?_
      clear A37 S37 a37 w37;intro a38 w38 A38 S38
      refine sv A38 S38 (opT_move (v := va0) rfl rfl) rfl rfl ?_
      clear A38 S38 a38 w38;intro a39 w39 A39 S39
      refine sv A39 S39 (opT_len_hd (v := va0) (n := s3.1.length) (St.hd S39 0 rfl).1 Try.underlying22 rfl rfl) rfl rfl ?_
      clear A39 S39 a39 w39;intro a40 w40 A40 S40
      refine sv A40 S40 (opT_cmp (k := .i64) (m := s3.2.2) (n := (s3.1.length : Int)) (c := decide (s3.2.2 < (s3.1.length : Int))) rfl rfl rfl rfl rfl) rfl rfl ?_
      clear A40 S40 a40 w40;intro a41 w41 A41 S41
      refine wpList_nil ?_
      replace A41 := A41.pick' (L' := [(0, va0), (1, .int .i64 s3.2.1), (5, .int .i64 s3.2.2), (9, .bool (decide (s3.2.2 < (s3.1.length : Int))))]) ⟨rfl, rfl, rfl, rfl, trivial⟩
      refine nrm ?_
      rcases two (decide (s3.2.2 < (s3.1.length : Int))) with hb3 | hb3
      · replace hm := ifFe hb3 hm
        refine cnd_false (b := decide (s3.2.2 < (s3.1.length : Int))) A41 rfl rfl hb3 ?_
        refine wp_exit ?_
        refine thenX ?_
        refine thenX ?_
        refine ex_in ?_
        refine nrm ?_
        exact ⟨_, loopBrk hm hf1, ⟨A41.pick' ⟨rfl, trivial⟩, St.sel S41 2 [0, 1] rfl rfl⟩⟩
      · replace hm := ifTe hb3 hm
        refine cnd_true (b := decide (s3.2.2 < (s3.1.length : Int))) A41 rfl rfl hb3 ?_
        refine wp_skip ?_
        refine nrm ?_
        refine wp_seq ?_
        refine wp_block ?_
        refine wp_seq ?_
        refine wp_region_lit ?_
        refine sv A41 S41 (opT_move (v := va0) rfl rfl) rfl rfl ?_
        clear A41 S41 a41 w41;intro a42 w42 A42 S42
        refine sv A42 S42 (opT_move (v := .int .i64 s3.2.2) rfl rfl) rfl rfl ?_
        clear A42 S42 a42 w42;intro a43 w43 A43 S43
        refine sv A43 S43 (opT_move (v := .int .i64 s3.2.1) rfl rfl) rfl rfl ?_
        clear A43 S43 a43 w43;intro a44 w44 A44 S44
        refine sv A44 S44 (opT_rem (m := s3.2.1) (n := 3) rfl rfl rfl (by decide)) rfl rfl ?_
        clear A44 S44 a44 w44;intro a45 w45 A45 S45
        refine sv A45 S45 (opT_cmp (k := .i64) (m := Int.tmod s3.2.1 3) (n := 0) (c := (Int.tmod s3.2.1 3) == 0) rfl rfl rfl rfl rfl) rfl rfl ?_
        clear A45 S45 a45 w45;intro a46 w46 A46 S46
        obtain ⟨x3, e3, hm⟩ := bind_some hm
        refine sv A46 S46 (opT_index_hd (xs := s3.1) (i := s3.2.2) (n := 1) (St.hd S46 0 rfl).1 Try.underlying22 ti4 rfl rfl rfl (getI_in e3)) rfl rfl ?_
        clear A46 S46 a46 w46;intro a47 w47 A47 S47
        refine seq_op A47 S47 rfl (opT_store_el (E := 4) (R := rBool) (S := rBool) (xs := s3.1) (a := x3) (b := (Int.tmod s3.2.1 3) == 0) (i := s3.2.2) (k := 1) (off := 0) (f := fun x y => y) (v := va0) (d := [.bool ((Int.tmod s3.2.1 3) == 0)]) (u := .bool ((Int.tmod s3.2.1 3) == 0)) sh_bool cpy_bool e3 Upd.self ti4 rfl rfl rfl rfl (allC rfl allN) rfl rfl (by decide) rfl) (perm_front (i := 0) rfl) rfl ?_
        rintro _ a48 w48 - A48 (S48 : St I w0 w48 [Ch.own (rSlice 4 rBool) [va0] (s3.1.set s3.2.2.toNat ((Int.tmod s3.2.1 3) == 0)), F])
        clear A47 S47 a47 w47
        refine wpList_nil ?_
        replace A48 := A48.pick' (L' := [(0, va0), (1, .int .i64 s3.2.1), (5, .int .i64 s3.2.2)]) ⟨rfl, rfl, rfl, trivial⟩
        refine nrm ?_
        refine wp_region_lit ?_
        refine sv A48 S48 (opT_move (v := .int .i64 s3.2.1) rfl rfl) rfl rfl ?_
        clear A48 S48 a48 w48;intro a49 w49 A49 S49
        refine sv A49 S49 (opT_add (m := s3.2.1) (n := 1) rfl rfl rfl) rfl rfl ?_
        clear A49 S49 a49 w49;intro a50 w50 A50 S50
        refine sv A50 S50 (opT_assign (v := .int .i64 (IntKind.i64.wrap (s3.2.1 + 1))) rfl rfl) rfl rfl ?_
        clear A50 S50 a50 w50;intro a51 w51 A51 S51
        refine wpList_nil ?_
        replace A51 := A51.pick' (L' := [(0, va0), (1, .int .i64 (IntKind.i64.wrap (s3.2.1 + 1))), (5, .int .i64 s3.2.2)]) ⟨rfl, rfl, rfl, trivial⟩
        refine nrmB ?_
        refine nrm ?_
        refine wp_region_lit ?_
        refine sv A51 S51 (opT_move (v := .int .i64 s3.2.2) rfl rfl) rfl rfl ?_
        clear A51 S51 a51 w51;intro a52 w52 A52 S52
        refine sv A52 S52 (opT_add (m := s3.2.2) (n := 1) rfl rfl rfl) rfl rfl ?_
        clear A52 S52 a52 w52;intro a53 w53 A53 S53
        refine sv A53 S53 (opT_assign (v := .int .i64 (IntKind.i64.wrap (s3.2.2 + 1))) rfl rfl) rfl rfl ?_
        clear A53 S53 a53 w53;intro a54 w54 A54 S54
        refine wpList_nil ?_
        replace A54 := A54.pick' (L' := [(0, va0), (1, .int .i64 (IntKind.i64.wrap (s3.2.1 + 1))), (5, .int .i64 (IntKind.i64.wrap (s3.2.2 + 1)))]) ⟨rfl, rfl, rfl, trivial⟩
        refine nrm ?_
        exact ⟨_, (Option.some.inj hm).symm, ⟨A54.pick' ⟨rfl, rfl, rfl, trivial⟩, St.sel S54 2 [0, 1] rfl rfl⟩⟩
  · rintro a55 w55 ⟨s4, ho1, A55, S55⟩
    replace hm := loopOut ho1 hc1
    clear ho1 hc1 hl1
    refine nrm ?_
    refine wp_seq ?_
    refine wp_region_lit ?_
    refine sv A55 S55 (opT_move (v := .int .i64 s4.2.1) rfl rfl) rfl rfl ?_
    clear A55 S55 a55 w55;intro a56 w56 A56 S56
    refine sv A56 S56 (opT_assign (v := .int .i64 s4.2.1) rfl rfl) rfl rfl ?_
    clear A56 S56 a56 w56;intro a57 w57 A57 S57
    refine wpList_nil ?_
    replace A57 := A57.pick' (L' := [(4, .int .i64 s4.2.1)]) ⟨rfl, trivial⟩
    refine nrm ?_
    refine wp_ret ?_
    obtain rfl := Option.some.inj hm
    exact ret_1 A57 rfl (res_tmp A57 rfl) ⟨_, rfl, rfl, _, Hp.le.rfl, St.sel (S57) 2 [0, 1] rfl rfl⟩
set_option maxHeartbeats 8000000 in
theorem c_w_szBoolS (p0a : List Bool) (p1left : Int) (r : Int) (hm : m_w_szBoolS p0a p1left = some r) {I : Hp} {w0 : World} (va0 : Value) (ra0 : (rSlice 4 rBool).rd I [va0] p0a) : Con Try.prog 44 #[va0, .int .i64 p1left] I w0 [] (fun v => v = .int .i64 r) (fun v => []) := by
  refine con_of_wp (n := 12) [(0, va0), (1, .int .i64 p1left)] Try.func44 rfl rfl (Nat.le_of_ble_eq_true rfl) (args_all ⟨rfl, rfl, trivial⟩) (fun F w a ha hs => ?_) (fun v => trivial)
  unfold m_w_szBoolS at hm
  refine wp_seq ?_
  refine wp_region_lit ?_
  refine sv ha hs (opT_assign (v := .int .i64 0) rfl rfl) rfl rfl ?_
  clear ha hs a w;intro a1 w1 A1 S1
  refine wpList_nil ?_
  replace A1 := A1.pick' (L' := [(0, va0), (1, .int .i64 p1left)]) ⟨rfl, rfl, trivial⟩
  refine nrm ?_
  refine wp_seq ?_
  refine wp_region_lit ?_
  refine sv A1 S1 (opT_move (v := .int .i64 p1left) rfl rfl) rfl rfl ?_
  clear A1 S1 a1 w1;intro a2 w2 A2 S2
  refine sv A2 S2 (opT_move (v := va0) rfl rfl) rfl rfl ?_
  clear A2 S2 a2 w2;intro a3 w3 A3 S3
  refine sv A3 S3 (opT_len_hd (v := va0) (n := p0a.length) (Hd.of_rd ra0) Try.underlying22 rfl rfl) rfl rfl ?_
  clear A3 S3 a3 w3;intro a4 w4 A4 S4
  refine sv A4 S4 (opT_sub (m := p1left) (n := (p0a.length : Int)) rfl rfl rfl) rfl rfl ?_
  clear A4 S4 a4 w4;intro a5 w5 A5 S5
  refine sv A5 S5 (opT_assign (v := .int .i64 (IntKind.i64.wrap (p1left - (p0a.length : Int)))) rfl rfl) rfl rfl ?_
  clear A5 S5 a5 w5;intro a6 w6 A6 S6
  refine wpList_nil ?_
  replace A6 := A6.pick' (L' := [(1, .int .i64 (IntKind.i64.wrap (p1left - (p0a.length : Int))))]) ⟨rfl, trivial⟩
  refine nrm ?_
  refine wp_seq ?_
  refine wp_seq ?_
  refine wp_region_lit ?_
  refine sv A6 S6 (opT_move (v := .int .i64 (IntKind.i64.wrap (p1left - (p0a.length : Int)))) rfl rfl) rfl rfl ?_
  clear A6 S6 a6 w6;intro a7 w7 A7 S7
  refine sv A7 S7 (opT_cmp (k := .i64) (m := IntKind.i64.wrap (p1left - (p0a.length : Int))) (n := 0) (c := decide (IntKind.i64.wrap (p1left - (p0a.length : Int)) < 0)) rfl rfl rfl rfl rfl) rfl rfl ?_
  clear A7 S7 a7 w7;intro a8 w8 A8 S8
  refine wpList_nil ?_
  replace A8 := A8.pick' (L' := [(1, .int .i64 (IntKind.i64.wrap (p1left - (p0a.length : Int)))), (10, .bool (decide (IntKind.i64.wrap (p1left - (p0a.length : Int)) < 0)))]) ⟨rfl, rfl, trivial⟩
  refine nrm ?_
  rcases two (decide (IntKind.i64.wrap (p1left - (p0a.length : Int)) < 0)) with hb1 | hb1
  · replace hm := ifFe hb1 hm
    refine cnd_false (b := decide (IntKind.i64.wrap (p1left - (p0a.length : Int)) < 0)) A8 rfl rfl hb1 ?_
    refine wp_skip ?_
    refine nrm ?_
    refine wp_seq ?_
    refine wp_region_lit ?_
    refine sv A8 S8 (opT_move (v := .int .i64 (IntKind.i64.wrap (p1left - (p0a.length : Int)))) rfl rfl) rfl rfl ?_
    clear A8 S8 a8 w8;intro a9 w9 A9 S9
    refine sv A9 S9 (opT_assign (v := .int .i64 (IntKind.i64.wrap (p1left - (p0a.length : Int)))) rfl rfl) rfl rfl ?_
    clear A9 S9 a9 w9;intro a10 w10 A10 S10
    refine wpList_nil ?_
    replace A10 := A10.pick' (L' := [(4, .int .i64 (IntKind.i64.wrap (p1left - (p0a.length : Int))))]) ⟨rfl, trivial⟩
    refine nrm ?_
    refine wp_ret ?_
    obtain rfl := Option.some.inj hm
    exact ret_1 A10 rfl (res_tmp A10 rfl) ⟨_, rfl, rfl, _, Hp.le.rfl, St.sel (S10) 1 [0] rfl rfl⟩
  · replace hm := ifTe hb1 hm
    refine cnd_true (b := decide (IntKind.i64.wrap (p1left - (p0a.length : Int)) < 0)) A8 rfl rfl hb1 ?_
    refine wp_seq ?_
    refine wp_region_lit ?_
    refine sv A8 S8 (opT_assign (v := .int .i64 (-1)) rfl rfl) rfl rfl ?_
    clear A8 S8 a8 w8;intro a11 w11 A11 S11
    refine wpList_nil ?_
    replace A11 := A11.pick' (L' := [(4, .int .i64 (-1))]) ⟨rfl, trivial⟩
    refine nrm ?_
    refine wp_ret ?_
    refine thenR ?_
    obtain rfl := Option.some.inj hm
    exact ret_1 A11 rfl (res_tmp A11 rfl) ⟨_, rfl, rfl, _, Hp.le.rfl, St.sel (S11) 1 [0] rfl rfl⟩
set_option maxHeartbeats 8000000 in
theorem c_w_szIntS (p0a : List Int) (p1left : Int) (r : Int) (hm : m_w_szIntS p0a p1left = some r) {I : Hp} {w0 : World} (va0 : Value) (ra0 : (rSlice 3 rInt).rd I [va0] p0a) : Con Try.prog 63 #[va0, .int .i64 p1left] I w0 [] (fun v => v = .int .i64 r) (fun v => []) := by
  refine con_of_wp (n := 12) [(0, va0), (1, .int .i64 p1left)] Try.func63 rfl rfl (Nat.le_of_ble_eq_true rfl) (args_all ⟨rfl, rfl, trivial⟩) (fun F w a ha hs => ?_) (fun v => trivial)
  unfold m_w_szIntS at hm
  refine wp_seq ?_
  refine wp_region_lit ?_
  refine sv ha hs (opT_assign (v := .int .i64 0) rfl rfl) rfl rfl ?_
  clear ha hs a w;intro a1 w1 A1 S1
  refine wpList_nil ?_
  replace A1 := A1.pick' (L' := [(0, va0), (1, .int .i64 p1left)]) ⟨rfl, rfl, trivial⟩
  refine nrm ?_
  refine wp_seq ?_
  refine wp_region_lit ?_
  refine sv A1 S1 (opT_move (v := .int .i64 p1left) rfl rfl) rfl rfl ?_
  clear A1 S1 a1 w1;intro a2 w2 A2 S2
  refine sv A2 S2 (opT_move (v := va0) rfl rfl) rfl rfl ?_
  clear A2 S2 a2 w2;intro a3 w3 A3 S3
  refine sv A3 S3 (opT_len_hd (v := va0) (n := p0a.length) (Hd.of_rd ra0) Try.underlying34 rfl rfl) rfl rfl ?_
  clear A3 S3 a3 w3;intro a4 w4 A4 S4
  refine sv A4 S4 (opT_sub (m := p1left) (n := (p0a.length : Int)) rfl rfl rfl) rfl rfl ?_
  clear A4 S4 a4 w4;intro a5 w5 A5 S5
  refine sv A5 S5 (opT_assign (v := .int .i64 (IntKind.i64.wrap (p1left - (p0a.length : Int)))) rfl rfl) rfl rfl ?_
  clear A5 S5 a5 w5;intro a6 w6 A6 S6
  refine wpList_nil ?_
  replace A6 := A6.pick' (L' := [(1, .int .i64 (IntKind.i64.wrap (p1left - (p0a.length : Int))))]) ⟨rfl, trivial⟩
  refine nrm ?_
  refine wp_seq ?_
  refine wp_seq ?_
  refine wp_region_lit ?_
  refine sv A6 S6 (opT_move (v := .int .i64 (IntKind.i64.wrap (p1left - (p0a.length : Int)))) rfl rfl) rfl rfl ?_
  clear A6 S6 a6 w6;intro a7 w7 A7 S7
  refine sv A7 S7 (opT_cmp (k := .i64) (m := IntKind.i64.wrap (p1left - (p0a.length : Int))) (n := 0) (c := decide (IntKind.i64.wrap (p1left - (p0a.length : Int)) < 0)) rfl rfl rfl rfl rfl) rfl rfl ?_
  clear A7 S7 a7 w7;intro a8 w8 A8 S8
  refine wpList_nil ?_
  replace A8 := A8.pick' (L' := [(1, .int .i64 (IntKind.i64.wrap (p1left - (p0a.length : Int)))), (10, .bool (decide (IntKind.i64.wrap (p1left - (p0a.length : Int)) < 0)))]) ⟨rfl, rfl, trivial⟩
  refine nrm ?_
  rcases two (decide (IntKind.i64.wrap (p1left - (p0a.length : Int)) < 0)) with hb1 | hb1
  · replace hm := ifFe hb1 hm
    refine cnd_false (b := decide (IntKind.i64.wrap (p1left - (p0a.length : Int)) < 0)) A8 rfl rfl hb1 ?_
    refine wp_skip ?_
    refine nrm ?_
    refine wp_seq ?_
    refine wp_region_lit ?_
    refine sv A8 S8 (opT_move (v := .int .i64 (IntKind.i64.wrap (p1left - (p0a.length : Int)))) rfl rfl) rfl rfl ?_
    clear A8 S8 a8 w8;intro a9 w9 A9 S9
    refine sv A9 S9 (opT_assign (v := .int .i64 (IntKind.i64.wrap (p1left - (p0a.length : Int)))) rfl rfl) rfl rfl ?_
    clear A9 S9 a9 w9;intro a10 w10 A10 S10
    refine wpList_nil ?_
    replace A10 := A10.pick' (L' := [(4, .int .i64 (IntKind.i64.wrap (p1left - (p0a.length : Int))))]) ⟨rfl, trivial⟩
    refine nrm ?_
    refine wp_ret ?_
    obtain rfl := Option.some.inj hm
    exact ret_1 A10 rfl (res_tmp A10 rfl) ⟨_, rfl, rfl, _, Hp.le.rfl, St.sel (S10) 1 [0] rfl rfl⟩
  · replace hm := ifTe hb1 hm
    refine cnd_true (b := decide (IntKind.i64.wrap (p1left - (p0a.length : Int)) < 0)) A8 rfl rfl hb1 ?_
    refine wp_seq ?_
    refine wp_region_lit ?_
    refine sv A8 S8 (opT_assign (v := .int .i64 (-1)) rfl rfl) rfl rfl ?_
    clear A8 S8 a8 w8;intro a11 w11 A11 S11
    refine wpList_nil ?_
    replace A11 := A11.pick' (L' := [(4, .int .i64 (-1))]) ⟨rfl, trivial⟩
    refine nrm ?_
    refine wp_ret ?_
    refine thenR ?_
    obtain rfl := Option.some.inj hm
    exact ret_1 A11 rfl (res_tmp A11 rfl) ⟨_, rfl, rfl, _, Hp.le.rfl, St.sel (S11) 1 [0] rfl rfl⟩
end Go.Proofs.Ytcihbmdppgpmjaa.D
