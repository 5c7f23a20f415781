/-
  DERIVED. GIVEN WITH THE SEED: THE CARDS: each row of YtfojdaengibfgaaDoorRows.lean that lists a variable, with what it lists TIED to the program's text (the seventh form; the later family's looks); each row that meets fmt, with fmt's text TOLD by the authors' own Lean function (tested against real Go, not proved from fmt's source: count such statements apart). THE CARD IS WHAT COUNTS. Prove the row's statement (the work); the ties are given (YtfojdaengibfgaaDoorTie.lean); close each card by the builder's one call (the guide's Derived/Test/ToyasCard.lean, 'card_holds'). Laid BY PROGRAM, IN A SANDBOX (cutbox-door.mjs). By AI agents, Wed Nov 11 2026. No macro, syntax, notation, axiom, sorry.
-/
import Derived.Test.YtfojdaengibfgaaDoorRows
import GoSem.ClaimSeven
namespace Go.Proofs.YtfojdaengibfgaaDoor
namespace Rows

/-- THE TIED CARD OF 'laws.FnExactFormatMessage'. -/
def fnExactFormatMessageCard : Claim7 := { stood := { row := fnExactFormatMessageRow, standIns := [], harness := (true, "faff5b842122b879e91fcb3c717d2f3ffd25c822b3e83b998dfec8559489a3e4"), looks := false }, kinds := [], alts := [], laidByText := true, laidKinds := [.data, .data, .data], laidTests := true, laidLooks := .later }
def FnExactFormatMessageCardSaid : Prop := Claim7.holds Tryd.pinned (.plain (OpenSpec.ofChange fnExactFormatMessageSpec)) fnExactFormatMessageCard

/-- THE SECOND FORM's CARD OF 'laws.FnExactFormatMessage'. -/
def fnExactFormatMessageUptoCard : Claim7 := { stood := { row := fnExactFormatMessageUptoRow, standIns := [], harness := (true, "faff5b842122b879e91fcb3c717d2f3ffd25c822b3e83b998dfec8559489a3e4"), looks := false }, kinds := [], alts := [], laidByText := true, laidKinds := [.data, .data, .data], laidTests := true, laidLooks := .later }
def FnExactFormatMessageUptoCardSaid : Prop := Claim7.holds Tryd.pinned (.plain (OpenSpec.upto fnExactFormatMessageSpec)) fnExactFormatMessageUptoCard
end Rows
end Go.Proofs.YtfojdaengibfgaaDoor
