/- FnExactLostRecords: for every input the law returns true and changes nothing that was there. Part 1 of 8. -/
import Derived.Test.YtilionjghdjbdaaGreatDoorRows
import Derived.Test.YtilionjghdjbdaaGreatDoorCards
import Derived.Test.YtilionjghdjbdaaGreatDoorTie
import Derived.LaidMore
import Derived.OpenShut
import Derived.Stop.Joined
import Derived.SevenTiedAt
import Derived.ProofKit
set_option linter.unusedVariables false
set_option linter.unusedSimpArgs false
set_option linter.unnecessarySimpa false
set_option linter.unusedSectionVars false
set_option maxRecDepth 1000000
namespace Go.Proofs.YtilionjghdjbdaaGreatDoor
open Go.ChangeShapes Go.WideShapes Go.RowKit
set_option maxHeartbeats 4000000 in
theorem rI:joinedFacts Tryz.pinned.checked.prog 4 Tryz.f4 Rows.fnExactLostRecordsSpec Rows.fnExactLostRecordsRow=true:=by
 unfold joinedFacts
 repeat' (with_reducible refine Bool.and_eq_true_iff.2 ⟨?_,?_⟩)
 all_goals as_aux_lemma=>kernel_rfl
theorem yd:Tryz.prog.funcNamed "loop.example/g01922/laws.FnExactLostRecords" =some 4:=by kernel_rfl
theorem ye:true=Tryz.pinned.checked.prog.looks []:=by kernel_rfl
theorem yf:false=Rows.fnExactLostRecordsRow.goesBy Tryz.pinned.checked.prog:=by kernel_rfl
theorem yg:Tryz.pinned.checked.prog.mainIs=some (true,"cff0790423b5df951cc606f0fc8fb4ad82e67faf05c9a9573691dcb8680664a3".toList):=by kernel_rfl
end Go.Proofs.YtilionjghdjbdaaGreatDoor
