/- FnExactFnMessages: for every input the law returns true and changes nothing that was there: closed facts of its row. -/
import Derived.Test.YtncnbjfngmhfaaaGreatDoorRows
import Derived.Test.YtncnbjfngmhfaaaGreatDoorCards
import Derived.Test.YtncnbjfngmhfaaaGreatDoorTie
import Derived.LaidMore
import Derived.OpenShut
import Derived.Stop.Joined
import Derived.SevenTiedAt
import Derived.ProofKit
set_option synthInstance.maxSize 20000
set_option synthInstance.maxHeartbeats 2000000
set_option linter.unusedVariables false
set_option linter.unusedSimpArgs false
set_option linter.unnecessarySimpa false
set_option linter.unusedSectionVars false
set_option maxRecDepth 1000000
namespace Go.Proofs.YtncnbjfngmhfaaaGreatDoor
open Go.IntKind (i64)
open Go.ChangeShapes Go.WideShapes Go.RowKit
set_option maxHeartbeats 4000000 in
theorem closedLFnMessages:joinedFacts Tryz.pinned.checked.prog 3 Tryz.f3 Rows.fnMessagesSpec Rows.fnMessagesRow=true:=by
 unfold joinedFacts
 repeat' (with_reducible refine Bool.and_eq_true_iff.2 ⟨?_,?_⟩)
 all_goals as_aux_lemma=>kernel_rfl
theorem kf1FnMessages:Tryz.prog.funcNamed "loop.example/g01922/laws.FnMessages" =some 3:=by kernel_rfl
theorem kf2FnMessages:false=Tryz.pinned.checked.prog.looks []:=by kernel_rfl
theorem kf3FnMessages:false=Rows.fnMessagesRow.goesBy Tryz.pinned.checked.prog:=by kernel_rfl
theorem kf4FnMessages:Tryz.pinned.checked.prog.mainIs=some (true,"0535d8d3f6f717256ad0ce517e162f6332e0d8c76a7eb7ac48152b59d4920289".toList):=by kernel_rfl
end Go.Proofs.YtncnbjfngmhfaaaGreatDoor
