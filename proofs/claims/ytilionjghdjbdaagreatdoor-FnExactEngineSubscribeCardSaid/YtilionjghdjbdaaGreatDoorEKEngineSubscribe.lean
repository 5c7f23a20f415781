/- FnExactEngineSubscribe: for every input the law returns true and changes nothing that was there: closed facts of its row. -/
import Derived.Test.YtilionjghdjbdaaGreatDoorRows
import Derived.Test.YtilionjghdjbdaaGreatDoorCards
import Derived.Test.YtilionjghdjbdaaGreatDoorTie
import Derived.LaidMore
import Derived.OpenShut
import Derived.Stop.Joined
import Derived.SevenTiedAt
import Derived.ProofKit
set_option linter.unusedVariables false
set_option linter.unusedSimpArgs false
set_option linter.unnecessarySimpa false
set_option linter.unusedSectionVars false
set_option maxRecDepth 1000000
namespace Go.Proofs.YtilionjghdjbdaaGreatDoor
open Go.ChangeShapes Go.WideShapes Go.RowKit
set_option maxHeartbeats 4000000 in
theorem closedLEngineSubscribe:joinedFacts Tryz.pinned.checked.prog 8 Tryz.f8 Rows.fnExactEngineSubscribeSpec Rows.fnExactEngineSubscribeRow=true:=by
 unfold joinedFacts
 repeat' (with_reducible refine Bool.and_eq_true_iff.2 ⟨?_,?_⟩)
 all_goals as_aux_lemma=>kernel_rfl
theorem kf1EngineSubscribe:Tryz.prog.funcNamed "loop.example/g01922/laws.FnExactEngineSubscribe" =some 8:=by kernel_rfl
theorem kf2EngineSubscribe:true=Tryz.pinned.checked.prog.looks []:=by kernel_rfl
theorem kf3EngineSubscribe:false=Rows.fnExactEngineSubscribeRow.goesBy Tryz.pinned.checked.prog:=by kernel_rfl
theorem kf4EngineSubscribe:Tryz.pinned.checked.prog.mainIs=some (true,"cff0790423b5df951cc606f0fc8fb4ad82e67faf05c9a9573691dcb8680664a3".toList):=by kernel_rfl
end Go.Proofs.YtilionjghdjbdaaGreatDoor
