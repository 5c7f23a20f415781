/- FnExactEngineRegister: for every input the law returns true and changes nothing that was there: closed facts of its row. -/
import Derived.Test.YtcobhgbgllfniaaGreatDoorRows
import Derived.Test.YtcobhgbgllfniaaGreatDoorCards
import Derived.Test.YtcobhgbgllfniaaGreatDoorTie
import Derived.LaidMore
import Derived.OpenShut
import Derived.Stop.Joined
import Derived.SevenTiedAt
import Derived.ProofKit
set_option linter.unusedVariables false
set_option linter.unusedSimpArgs false
set_option linter.unnecessarySimpa false
set_option linter.unusedSectionVars false
set_option maxRecDepth 1000000
namespace Go.Proofs.YtcobhgbgllfniaaGreatDoor
open Go.ChangeShapes Go.WideShapes Go.RowKit
set_option maxHeartbeats 4000000 in
theorem closedLEngineRegister:joinedFacts Tryz.pinned.checked.prog 6 Tryz.f6 Rows.fnExactEngineRegisterSpec Rows.fnExactEngineRegisterRow=true:=by
 unfold joinedFacts
 repeat' (with_reducible refine Bool.and_eq_true_iff.2 ⟨?_,?_⟩)
 all_goals as_aux_lemma=>kernel_rfl
theorem kf1EngineRegister:Tryz.prog.funcNamed "loop.example/g01922/laws.FnExactEngineRegister" =some 6:=by kernel_rfl
theorem kf2EngineRegister:true=Tryz.pinned.checked.prog.looks []:=by kernel_rfl
theorem kf3EngineRegister:false=Rows.fnExactEngineRegisterRow.goesBy Tryz.pinned.checked.prog:=by kernel_rfl
theorem kf4EngineRegister:Tryz.pinned.checked.prog.mainIs=some (true,"0d5d7dc186e6548009e7c177a393f50aa43d1fe9f92aa0faff0da6829b1a4e42".toList):=by kernel_rfl
end Go.Proofs.YtcobhgbgllfniaaGreatDoor
