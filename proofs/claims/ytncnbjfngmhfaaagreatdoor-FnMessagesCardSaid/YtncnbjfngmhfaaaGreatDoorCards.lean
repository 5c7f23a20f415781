/-
  DERIVED. GIVEN WITH THE SEED: THE CARDS: each row of YtncnbjfngmhfaaaGreatDoorRows.lean that lists a variable, with what it lists TIED to the program's text (the seventh form; the later family's looks); each row that meets fmt, with fmt's text TOLD by the authors' own Lean function (tested against real Go, not proved from fmt's source: count such statements apart). THE CARD IS WHAT COUNTS. Prove the row's statement (the work); the ties are given (YtncnbjfngmhfaaaGreatDoorTie.lean); close each card by the builder's one call (the guide's Derived/Test/ToyasCard.lean, 'card_holds'). Laid BY PROGRAM, IN A SANDBOX (cutbox-door.mjs). By AI agents, Wed Nov 11 2026. No macro, syntax, notation, axiom, sorry.
-/
import Derived.Test.YtncnbjfngmhfaaaGreatDoorRows
import GoSem.ClaimSeven
namespace Go.Proofs.YtncnbjfngmhfaaaGreatDoor
namespace Rows

/-- THE TIED CARD OF 'laws.FnMessages'. -/
def fnMessagesCard : Claim7 := { stood := { row := fnMessagesRow, standIns := [], harness := (true, "0535d8d3f6f717256ad0ce517e162f6332e0d8c76a7eb7ac48152b59d4920289"), looks := false }, kinds := [], alts := [], laidByText := true, laidKinds := [.data, .data, .data], laidTests := true, laidLooks := .later }
def FnMessagesCardSaid : Prop := Claim7.holds Tryz.pinned (.plain (OpenSpec.ofChange fnMessagesSpec)) fnMessagesCard

/-- THE SECOND FORM's CARD OF 'laws.FnMessages'. -/
def fnMessagesUptoCard : Claim7 := { stood := { row := fnMessagesUptoRow, standIns := [], harness := (true, "0535d8d3f6f717256ad0ce517e162f6332e0d8c76a7eb7ac48152b59d4920289"), looks := false }, kinds := [], alts := [], laidByText := true, laidKinds := [.data, .data, .data], laidTests := true, laidLooks := .later }
def FnMessagesUptoCardSaid : Prop := Claim7.holds Tryz.pinned (.plain (OpenSpec.upto fnMessagesSpec)) fnMessagesUptoCard
end Rows
end Go.Proofs.YtncnbjfngmhfaaaGreatDoor
