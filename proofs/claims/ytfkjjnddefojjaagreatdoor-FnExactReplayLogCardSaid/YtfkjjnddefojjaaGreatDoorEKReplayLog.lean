/- FnExactReplayLog: for every input the law returns true and changes nothing that was there: closed facts of its row. -/
import Derived.Test.YtfkjjnddefojjaaGreatDoorRows
import Derived.Test.YtfkjjnddefojjaaGreatDoorCards
import Derived.Test.YtfkjjnddefojjaaGreatDoorTie
import Derived.LaidMore
import Derived.OpenShut
import Derived.Stop.Joined
import Derived.SevenTiedAt
import Derived.ProofKit
set_option linter.unusedVariables false
set_option linter.unusedSimpArgs false
set_option linter.unnecessarySimpa false
set_option linter.unusedSectionVars false
/- FnExactReplayLog: closed facts of its row and card. (Printed by genrow.py.) -/
set_option maxRecDepth 100000
namespace Go.Proofs.YtfkjjnddefojjaaGreatDoor
open Go.ChangeShapes Go.WideShapes Go.RowKit
set_option maxHeartbeats 4000000 in
theorem closedLReplayLog : joinedFacts Tryz.pinned.checked.prog 3 Tryz.f3 Rows.fnExactReplayLogSpec Rows.fnExactReplayLogRow = true := by
  unfold joinedFacts
  repeat' (with_reducible refine Bool.and_eq_true_iff.2 ⟨?_, ?_⟩)
  all_goals as_aux_lemma => kernel_rfl
theorem kf1ReplayLog : Tryz.prog.funcNamed "loop.example/g01922/laws.FnExactReplayLog" = some 3 := by kernel_rfl
theorem kf2ReplayLog : true = Tryz.pinned.checked.prog.looks [] := by kernel_rfl
theorem kf3ReplayLog : false = Rows.fnExactReplayLogRow.goesBy Tryz.pinned.checked.prog := by kernel_rfl
theorem kf4ReplayLog : Tryz.pinned.checked.prog.mainIs = some (true, "f954505e4a17b4d7a053f54f81d5a1bee1a98e9bcd0ce9de83a2e0606073c4ba".toList) := by kernel_rfl
end Go.Proofs.YtfkjjnddefojjaaGreatDoor
