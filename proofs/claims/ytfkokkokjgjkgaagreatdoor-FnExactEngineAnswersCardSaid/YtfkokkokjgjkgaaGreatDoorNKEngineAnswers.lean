/- FnExactEngineAnswers: for every input the law returns true and changes nothing that was there: closed facts of its row. -/
import Derived.Test.YtfkokkokjgjkgaaGreatDoorRows
import Derived.Test.YtfkokkokjgjkgaaGreatDoorCards
import Derived.Test.YtfkokkokjgjkgaaGreatDoorTie
import Derived.LaidMore
import Derived.OpenShut
import Derived.Stop.Joined
import Derived.SevenTiedAt
import Derived.ProofKit
set_option synthInstance.maxSize 20000
set_option synthInstance.maxHeartbeats 2000000
set_option linter.unusedVariables false
set_option linter.unusedSimpArgs false
set_option linter.unnecessarySimpa false
set_option linter.unusedSectionVars false
set_option maxRecDepth 1000000
namespace Go.Proofs.YtfkokkokjgjkgaaGreatDoor
open Go.IntKind (i64)
open Go.ChangeShapes Go.WideShapes Go.RowKit
set_option maxHeartbeats 4000000 in
theorem closedLEngineAnswers:joinedFacts Tryz.pinned.checked.prog 3 Tryz.f3 Rows.fnExactEngineAnswersSpec Rows.fnExactEngineAnswersRow=true:=by
 unfold joinedFacts
 repeat' (with_reducible refine Bool.and_eq_true_iff.2 ⟨?_,?_⟩)
 all_goals as_aux_lemma=>kernel_rfl
theorem kf1EngineAnswers:Tryz.prog.funcNamed "loop.example/g01922/laws.FnExactEngineAnswers" =some 3:=by kernel_rfl
theorem kf2EngineAnswers:true=Tryz.pinned.checked.prog.looks []:=by kernel_rfl
theorem kf3EngineAnswers:false=Rows.fnExactEngineAnswersRow.goesBy Tryz.pinned.checked.prog:=by kernel_rfl
theorem kf4EngineAnswers:Tryz.pinned.checked.prog.mainIs=some (true,"3827e2d3ebabca6dd897c7616aa3f902394a5bdc887833cc3b92cd51dd71d025".toList):=by kernel_rfl
end Go.Proofs.YtfkokkokjgjkgaaGreatDoor
