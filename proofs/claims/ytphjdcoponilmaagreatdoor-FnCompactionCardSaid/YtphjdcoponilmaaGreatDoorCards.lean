/-
  DERIVED. GIVEN WITH THE SEED: THE CARDS: each row of YtphjdcoponilmaaGreatDoorRows.lean that lists a variable, with what it lists TIED to the program's text (the seventh form; the later family's looks); each row that meets fmt, with fmt's text TOLD by the authors' own Lean function (tested against real Go, not proved from fmt's source: count such statements apart). THE CARD IS WHAT COUNTS. Prove the row's statement (the work); the ties are given (YtphjdcoponilmaaGreatDoorTie.lean); close each card by the builder's one call (the guide's Derived/Test/ToyasCard.lean, 'card_holds'). Laid BY PROGRAM, IN A SANDBOX (cutbox-door.mjs). By AI agents, Wed Nov 11 2026. No macro, syntax, notation, axiom, sorry.
-/
import Derived.Test.YtphjdcoponilmaaGreatDoorRows
import GoSem.ClaimSeven
namespace Go.Proofs.YtphjdcoponilmaaGreatDoor
namespace Rows

/-- THE TIED CARD OF 'laws.FnCompaction'. -/
def fnCompactionCard : Claim7 := { stood := { row := fnCompactionRow, standIns := [], harness := (true, "d9fc329af230f39095362f54ea72f4789929dd71b4f6718d85db835ca775210c"), looks := true }, kinds := [], alts := [], laidByText := true, laidKinds := [.data, .data, .data, .data, .sentinel, .sentinel, .pinned], laidTests := true, laidLooks := .later }
def FnCompactionCardSaid : Prop := Claim7.holds Tryz.pinned (.plain (OpenSpec.ofChange fnCompactionSpec)) fnCompactionCard

/-- THE SECOND FORM's CARD OF 'laws.FnCompaction'. -/
def fnCompactionUptoCard : Claim7 := { stood := { row := fnCompactionUptoRow, standIns := [], harness := (true, "d9fc329af230f39095362f54ea72f4789929dd71b4f6718d85db835ca775210c"), looks := true }, kinds := [], alts := [], laidByText := true, laidKinds := [.data, .data, .data, .data, .sentinel, .sentinel, .pinned], laidTests := true, laidLooks := .later }
def FnCompactionUptoCardSaid : Prop := Claim7.holds Tryz.pinned (.plain (OpenSpec.upto fnCompactionSpec)) fnCompactionUptoCard
end Rows
end Go.Proofs.YtphjdcoponilmaaGreatDoor
