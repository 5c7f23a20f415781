/-
  DERIVED. GIVEN WITH THE SEED: THE CARDS: each row of YteapgmibbpckoaaGreatDoorRows.lean that lists a variable, with what it lists TIED to the program's text (the seventh form; the later family's looks); each row that meets fmt, with fmt's text TOLD by the authors' own Lean function (tested against real Go, not proved from fmt's source: count such statements apart). THE CARD IS WHAT COUNTS. Prove the row's statement (the work); the ties are given (YteapgmibbpckoaaGreatDoorTie.lean); close each card by the builder's one call (the guide's Derived/Test/ToyasCard.lean, 'card_holds'). Laid BY PROGRAM, IN A SANDBOX (cutbox-door.mjs). By AI agents, Wed Nov 11 2026. No macro, syntax, notation, axiom, sorry.
-/
import Derived.Test.YteapgmibbpckoaaGreatDoorRows
import GoSem.ClaimSeven
namespace Go.Proofs.YteapgmibbpckoaaGreatDoor
namespace Rows

/-- THE TIED CARD OF 'laws.FnExactEngineAnswers'. -/
def fnExactEngineAnswersCard : Claim7 := { stood := { row := fnExactEngineAnswersRow, standIns := [], harness := (true, "1a2e15b9ca5d7de4aaf969e293eeafc31dfffa4c2311ce6b89b2cbb4ae8aea2a"), looks := true }, kinds := [], alts := [], laidByText := true, laidKinds := [.data, .data, .data, .data, .sentinel, .sentinel, .pinned], laidTests := true, laidLooks := .later }
def FnExactEngineAnswersCardSaid : Prop := Claim7.holds Tryz.pinned (.plain (OpenSpec.ofChange fnExactEngineAnswersSpec)) fnExactEngineAnswersCard

/-- THE TIED CARD OF 'laws.FnExactEnginePoll'. -/
def fnExactEnginePollCard : Claim7 := { stood := { row := fnExactEnginePollRow, standIns := [], harness := (true, "1a2e15b9ca5d7de4aaf969e293eeafc31dfffa4c2311ce6b89b2cbb4ae8aea2a"), looks := true }, kinds := [], alts := [], laidByText := true, laidKinds := [.data, .data, .data, .data, .sentinel, .sentinel, .pinned], laidTests := true, laidLooks := .later }
def FnExactEnginePollCardSaid : Prop := Claim7.holds Tryz.pinned (.plain (OpenSpec.ofChange fnExactEnginePollSpec)) fnExactEnginePollCard

/-- THE SECOND FORM's CARD OF 'laws.FnExactEngineAnswers'. -/
def fnExactEngineAnswersUptoCard : Claim7 := { stood := { row := fnExactEngineAnswersUptoRow, standIns := [], harness := (true, "1a2e15b9ca5d7de4aaf969e293eeafc31dfffa4c2311ce6b89b2cbb4ae8aea2a"), looks := true }, kinds := [], alts := [], laidByText := true, laidKinds := [.data, .data, .data, .data, .sentinel, .sentinel, .pinned], laidTests := true, laidLooks := .later }
def FnExactEngineAnswersUptoCardSaid : Prop := Claim7.holds Tryz.pinned (.plain (OpenSpec.upto fnExactEngineAnswersSpec)) fnExactEngineAnswersUptoCard

/-- THE SECOND FORM's CARD OF 'laws.FnExactEnginePoll'. -/
def fnExactEnginePollUptoCard : Claim7 := { stood := { row := fnExactEnginePollUptoRow, standIns := [], harness := (true, "1a2e15b9ca5d7de4aaf969e293eeafc31dfffa4c2311ce6b89b2cbb4ae8aea2a"), looks := true }, kinds := [], alts := [], laidByText := true, laidKinds := [.data, .data, .data, .data, .sentinel, .sentinel, .pinned], laidTests := true, laidLooks := .later }
def FnExactEnginePollUptoCardSaid : Prop := Claim7.holds Tryz.pinned (.plain (OpenSpec.upto fnExactEnginePollSpec)) fnExactEnginePollUptoCard
end Rows
end Go.Proofs.YteapgmibbpckoaaGreatDoor
