/- FnExactEnginePoll: for every input the law returns true and changes nothing that was there: closed facts of its row. -/
import Derived.Test.YteapgmibbpckoaaGreatDoorRows
import Derived.Test.YteapgmibbpckoaaGreatDoorCards
import Derived.Test.YteapgmibbpckoaaGreatDoorTie
import Derived.LaidMore
import Derived.OpenShut
import Derived.Stop.Joined
import Derived.SevenTiedAt
import Derived.ProofKit
set_option synthInstance.maxSize 20000
set_option synthInstance.maxHeartbeats 2000000
set_option linter.unusedVariables false
set_option linter.unusedSimpArgs false
set_option linter.unnecessarySimpa false
set_option linter.unusedSectionVars false
set_option maxRecDepth 1000000
namespace Go.Proofs.YteapgmibbpckoaaGreatDoor
open Go.IntKind (i64)
open Go.ChangeShapes Go.WideShapes Go.RowKit
set_option maxHeartbeats 4000000 in
theorem closedLEnginePoll:joinedFacts Tryz.pinned.checked.prog 4 Tryz.f4 Rows.fnExactEnginePollSpec Rows.fnExactEnginePollRow=true:=by
 unfold joinedFacts
 repeat' (with_reducible refine Bool.and_eq_true_iff.2 ⟨?_,?_⟩)
 all_goals as_aux_lemma=>kernel_rfl
theorem kf1EnginePoll:Tryz.prog.funcNamed "loop.example/g01922/laws.FnExactEnginePoll" =some 4:=by kernel_rfl
theorem kf2EnginePoll:true=Tryz.pinned.checked.prog.looks []:=by kernel_rfl
theorem kf3EnginePoll:false=Rows.fnExactEnginePollRow.goesBy Tryz.pinned.checked.prog:=by kernel_rfl
theorem kf4EnginePoll:Tryz.pinned.checked.prog.mainIs=some (true,"1a2e15b9ca5d7de4aaf969e293eeafc31dfffa4c2311ce6b89b2cbb4ae8aea2a".toList):=by kernel_rfl
end Go.Proofs.YteapgmibbpckoaaGreatDoor
