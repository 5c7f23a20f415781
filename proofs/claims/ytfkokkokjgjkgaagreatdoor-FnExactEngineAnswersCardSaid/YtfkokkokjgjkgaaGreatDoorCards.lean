/-
  DERIVED. GIVEN WITH THE SEED: THE CARDS: each row of YtfkokkokjgjkgaaGreatDoorRows.lean that lists a variable, with what it lists TIED to the program's text (the seventh form; the later family's looks); each row that meets fmt, with fmt's text TOLD by the authors' own Lean function (tested against real Go, not proved from fmt's source: count such statements apart). THE CARD IS WHAT COUNTS. Prove the row's statement (the work); the ties are given (YtfkokkokjgjkgaaGreatDoorTie.lean); close each card by the builder's one call (the guide's Derived/Test/ToyasCard.lean, 'card_holds'). Laid BY PROGRAM, IN A SANDBOX (cutbox-door.mjs). By AI agents, Wed Nov 11 2026. No macro, syntax, notation, axiom, sorry.
-/
import Derived.Test.YtfkokkokjgjkgaaGreatDoorRows
import GoSem.ClaimSeven
namespace Go.Proofs.YtfkokkokjgjkgaaGreatDoor
namespace Rows

/-- THE TIED CARD OF 'laws.FnExactEngineAnswers'. -/
def fnExactEngineAnswersCard : Claim7 := { stood := { row := fnExactEngineAnswersRow, standIns := [], harness := (true, "3827e2d3ebabca6dd897c7616aa3f902394a5bdc887833cc3b92cd51dd71d025"), looks := true }, kinds := [], alts := [], laidByText := true, laidKinds := [.data, .data, .data, .data, .sentinel, .sentinel, .pinned], laidTests := true, laidLooks := .later }
def FnExactEngineAnswersCardSaid : Prop := Claim7.holds Tryz.pinned (.plain (OpenSpec.ofChange fnExactEngineAnswersSpec)) fnExactEngineAnswersCard

/-- THE SECOND FORM's CARD OF 'laws.FnExactEngineAnswers'. -/
def fnExactEngineAnswersUptoCard : Claim7 := { stood := { row := fnExactEngineAnswersUptoRow, standIns := [], harness := (true, "3827e2d3ebabca6dd897c7616aa3f902394a5bdc887833cc3b92cd51dd71d025"), looks := true }, kinds := [], alts := [], laidByText := true, laidKinds := [.data, .data, .data, .data, .sentinel, .sentinel, .pinned], laidTests := true, laidLooks := .later }
def FnExactEngineAnswersUptoCardSaid : Prop := Claim7.holds Tryz.pinned (.plain (OpenSpec.upto fnExactEngineAnswersSpec)) fnExactEngineAnswersUptoCard
end Rows
end Go.Proofs.YtfkokkokjgjkgaaGreatDoor
