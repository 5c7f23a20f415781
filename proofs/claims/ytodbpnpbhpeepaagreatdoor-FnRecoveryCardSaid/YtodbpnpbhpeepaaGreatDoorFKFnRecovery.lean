/- FnExactFnRecovery: for every input the law returns true and changes nothing that was there: closed facts of its row. -/
import Derived.Test.YtodbpnpbhpeepaaGreatDoorRows
import Derived.Test.YtodbpnpbhpeepaaGreatDoorCards
import Derived.Test.YtodbpnpbhpeepaaGreatDoorTie
import Derived.LaidMore
import Derived.OpenShut
import Derived.Stop.Joined
import Derived.SevenTiedAt
import Derived.ProofKit
set_option synthInstance.maxSize 20000
set_option synthInstance.maxHeartbeats 2000000
set_option linter.unusedVariables false
set_option linter.unusedSimpArgs false
set_option linter.unnecessarySimpa false
set_option linter.unusedSectionVars false
set_option maxRecDepth 1000000
namespace Go.Proofs.YtodbpnpbhpeepaaGreatDoor
open Go.IntKind (i64)
open Go.ChangeShapes Go.WideShapes Go.RowKit
set_option maxHeartbeats 4000000 in
theorem closedLFnRecovery:joinedFacts Tryz.pinned.checked.prog 3 Tryz.f3 Rows.fnRecoverySpec Rows.fnRecoveryRow=true:=by
 unfold joinedFacts
 repeat' (with_reducible refine Bool.and_eq_true_iff.2 ⟨?_,?_⟩)
 all_goals as_aux_lemma=>kernel_rfl
theorem kf1FnRecovery:Tryz.prog.funcNamed "loop.example/g01922/laws.FnRecovery" =some 3:=by kernel_rfl
theorem kf2FnRecovery:true=Tryz.pinned.checked.prog.looks []:=by kernel_rfl
theorem kf3FnRecovery:false=Rows.fnRecoveryRow.goesBy Tryz.pinned.checked.prog:=by kernel_rfl
theorem kf4FnRecovery:Tryz.pinned.checked.prog.mainIs=some (true,"3c499cde14a55990d2571a198b88511f35a3bcefb865e8a21ba7b894b258559b".toList):=by kernel_rfl
end Go.Proofs.YtodbpnpbhpeepaaGreatDoor
