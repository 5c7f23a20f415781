/- FnExactFnCompaction: for every input the law returns true and changes nothing that was there: closed facts of its row. -/
import Derived.Test.YtphjdcoponilmaaGreatDoorRows
import Derived.Test.YtphjdcoponilmaaGreatDoorCards
import Derived.Test.YtphjdcoponilmaaGreatDoorTie
import Derived.LaidMore
import Derived.OpenShut
import Derived.Stop.Joined
import Derived.SevenTiedAt
import Derived.ProofKit
set_option synthInstance.maxSize 20000
set_option synthInstance.maxHeartbeats 2000000
set_option linter.unusedVariables false
set_option linter.unusedSimpArgs false
set_option linter.unnecessarySimpa false
set_option linter.unusedSectionVars false
set_option maxRecDepth 1000000
namespace Go.Proofs.YtphjdcoponilmaaGreatDoor
open Go.IntKind (i64)
open Go.ChangeShapes Go.WideShapes Go.RowKit
set_option maxHeartbeats 4000000 in
theorem closedLFnCompaction:joinedFacts Tryz.pinned.checked.prog 3 Tryz.f3 Rows.fnCompactionSpec Rows.fnCompactionRow=true:=by
 unfold joinedFacts
 repeat' (with_reducible refine Bool.and_eq_true_iff.2 ⟨?_,?_⟩)
 all_goals as_aux_lemma=>kernel_rfl
theorem kf1FnCompaction:Tryz.prog.funcNamed "loop.example/g01922/laws.FnCompaction" =some 3:=by kernel_rfl
theorem kf2FnCompaction:true=Tryz.pinned.checked.prog.looks []:=by kernel_rfl
theorem kf3FnCompaction:false=Rows.fnCompactionRow.goesBy Tryz.pinned.checked.prog:=by kernel_rfl
theorem kf4FnCompaction:Tryz.pinned.checked.prog.mainIs=some (true,"d9fc329af230f39095362f54ea72f4789929dd71b4f6718d85db835ca775210c".toList):=by kernel_rfl
end Go.Proofs.YtphjdcoponilmaaGreatDoor
