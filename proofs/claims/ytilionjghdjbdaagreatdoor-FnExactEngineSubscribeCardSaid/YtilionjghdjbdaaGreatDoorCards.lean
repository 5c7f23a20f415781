/-
  DERIVED. GIVEN WITH THE SEED: THE CARDS: each row of YtilionjghdjbdaaGreatDoorRows.lean that lists a variable, with what it lists TIED to the program's text (the seventh form; the later family's looks); each row that meets fmt, with fmt's text TOLD by the authors' own Lean function (tested against real Go, not proved from fmt's source: count such statements apart). THE CARD IS WHAT COUNTS. Prove the row's statement (the work); the ties are given (YtilionjghdjbdaaGreatDoorTie.lean); close each card by the builder's one call (the guide's Derived/Test/ToyasCard.lean, 'card_holds'). Laid BY PROGRAM, IN A SANDBOX (cutbox-door.mjs). By AI agents, Wed Nov 11 2026. No macro, syntax, notation, axiom, sorry.
-/
import Derived.Test.YtilionjghdjbdaaGreatDoorRows
import GoSem.ClaimSeven
namespace Go.Proofs.YtilionjghdjbdaaGreatDoor
namespace Rows

/-- THE TIED CARD OF 'laws.FnExactIsValidEngine'. -/
def fnExactIsValidEngineCard : Claim7 := { stood := { row := fnExactIsValidEngineRow, standIns := [], harness := (true, "cff0790423b5df951cc606f0fc8fb4ad82e67faf05c9a9573691dcb8680664a3"), looks := true }, kinds := [], alts := [], laidByText := true, laidKinds := [.data, .data, .data, .data, .sentinel, .sentinel, .pinned], laidTests := true, laidLooks := .later }
def FnExactIsValidEngineCardSaid : Prop := Claim7.holds Tryz.pinned (.plain (OpenSpec.ofChange fnExactIsValidEngineSpec)) fnExactIsValidEngineCard

/-- THE TIED CARD OF 'laws.FnExactLostRecords'. -/
def fnExactLostRecordsCard : Claim7 := { stood := { row := fnExactLostRecordsRow, standIns := [], harness := (true, "cff0790423b5df951cc606f0fc8fb4ad82e67faf05c9a9573691dcb8680664a3"), looks := true }, kinds := [], alts := [], laidByText := true, laidKinds := [.data, .data, .data, .data, .sentinel, .sentinel, .pinned], laidTests := true, laidLooks := .later }
def FnExactLostRecordsCardSaid : Prop := Claim7.holds Tryz.pinned (.plain (OpenSpec.ofChange fnExactLostRecordsSpec)) fnExactLostRecordsCard

/-- THE TIED CARD OF 'laws.FnExactCheckpointEngine'. -/
def fnExactCheckpointEngineCard : Claim7 := { stood := { row := fnExactCheckpointEngineRow, standIns := [], harness := (true, "cff0790423b5df951cc606f0fc8fb4ad82e67faf05c9a9573691dcb8680664a3"), looks := true }, kinds := [], alts := [], laidByText := true, laidKinds := [.data, .data, .data, .data, .sentinel, .sentinel, .pinned], laidTests := true, laidLooks := .later }
def FnExactCheckpointEngineCardSaid : Prop := Claim7.holds Tryz.pinned (.plain (OpenSpec.ofChange fnExactCheckpointEngineSpec)) fnExactCheckpointEngineCard

/-- THE TIED CARD OF 'laws.FnExactEngineCompact'. -/
def fnExactEngineCompactCard : Claim7 := { stood := { row := fnExactEngineCompactRow, standIns := [], harness := (true, "cff0790423b5df951cc606f0fc8fb4ad82e67faf05c9a9573691dcb8680664a3"), looks := true }, kinds := [], alts := [], laidByText := true, laidKinds := [.data, .data, .data, .data, .sentinel, .sentinel, .pinned], laidTests := true, laidLooks := .later }
def FnExactEngineCompactCardSaid : Prop := Claim7.holds Tryz.pinned (.plain (OpenSpec.ofChange fnExactEngineCompactSpec)) fnExactEngineCompactCard

/-- THE TIED CARD OF 'laws.FnExactEngineUnregister'. -/
def fnExactEngineUnregisterCard : Claim7 := { stood := { row := fnExactEngineUnregisterRow, standIns := [], harness := (true, "cff0790423b5df951cc606f0fc8fb4ad82e67faf05c9a9573691dcb8680664a3"), looks := true }, kinds := [], alts := [], laidByText := true, laidKinds := [.data, .data, .data, .data, .sentinel, .sentinel, .pinned], laidTests := true, laidLooks := .later }
def FnExactEngineUnregisterCardSaid : Prop := Claim7.holds Tryz.pinned (.plain (OpenSpec.ofChange fnExactEngineUnregisterSpec)) fnExactEngineUnregisterCard

/-- THE TIED CARD OF 'laws.FnExactEngineSubscribe'. -/
def fnExactEngineSubscribeCard : Claim7 := { stood := { row := fnExactEngineSubscribeRow, standIns := [], harness := (true, "cff0790423b5df951cc606f0fc8fb4ad82e67faf05c9a9573691dcb8680664a3"), looks := true }, kinds := [], alts := [], laidByText := true, laidKinds := [.data, .data, .data, .data, .sentinel, .sentinel, .pinned], laidTests := true, laidLooks := .later }
def FnExactEngineSubscribeCardSaid : Prop := Claim7.holds Tryz.pinned (.plain (OpenSpec.ofChange fnExactEngineSubscribeSpec)) fnExactEngineSubscribeCard

/-- THE TIED CARD OF 'laws.FnExactEngineRegister'. -/
def fnExactEngineRegisterCard : Claim7 := { stood := { row := fnExactEngineRegisterRow, standIns := [], harness := (true, "cff0790423b5df951cc606f0fc8fb4ad82e67faf05c9a9573691dcb8680664a3"), looks := true }, kinds := [], alts := [], laidByText := true, laidKinds := [.data, .data, .data, .data, .sentinel, .sentinel, .pinned], laidTests := true, laidLooks := .later }
def FnExactEngineRegisterCardSaid : Prop := Claim7.holds Tryz.pinned (.plain (OpenSpec.ofChange fnExactEngineRegisterSpec)) fnExactEngineRegisterCard

/-- THE TIED CARD OF 'laws.FnExactEngineApply'. -/
def fnExactEngineApplyCard : Claim7 := { stood := { row := fnExactEngineApplyRow, standIns := [], harness := (true, "cff0790423b5df951cc606f0fc8fb4ad82e67faf05c9a9573691dcb8680664a3"), looks := true }, kinds := [], alts := [], laidByText := true, laidKinds := [.data, .data, .data, .data, .sentinel, .sentinel, .pinned], laidTests := true, laidLooks := .later }
def FnExactEngineApplyCardSaid : Prop := Claim7.holds Tryz.pinned (.plain (OpenSpec.ofChange fnExactEngineApplySpec)) fnExactEngineApplyCard

/-- THE SECOND FORM's CARD OF 'laws.FnExactIsValidEngine'. -/
def fnExactIsValidEngineUptoCard : Claim7 := { stood := { row := fnExactIsValidEngineUptoRow, standIns := [], harness := (true, "cff0790423b5df951cc606f0fc8fb4ad82e67faf05c9a9573691dcb8680664a3"), looks := true }, kinds := [], alts := [], laidByText := true, laidKinds := [.data, .data, .data, .data, .sentinel, .sentinel, .pinned], laidTests := true, laidLooks := .later }
def FnExactIsValidEngineUptoCardSaid : Prop := Claim7.holds Tryz.pinned (.plain (OpenSpec.upto fnExactIsValidEngineSpec)) fnExactIsValidEngineUptoCard

/-- THE SECOND FORM's CARD OF 'laws.FnExactLostRecords'. -/
def fnExactLostRecordsUptoCard : Claim7 := { stood := { row := fnExactLostRecordsUptoRow, standIns := [], harness := (true, "cff0790423b5df951cc606f0fc8fb4ad82e67faf05c9a9573691dcb8680664a3"), looks := true }, kinds := [], alts := [], laidByText := true, laidKinds := [.data, .data, .data, .data, .sentinel, .sentinel, .pinned], laidTests := true, laidLooks := .later }
def FnExactLostRecordsUptoCardSaid : Prop := Claim7.holds Tryz.pinned (.plain (OpenSpec.upto fnExactLostRecordsSpec)) fnExactLostRecordsUptoCard

/-- THE SECOND FORM's CARD OF 'laws.FnExactCheckpointEngine'. -/
def fnExactCheckpointEngineUptoCard : Claim7 := { stood := { row := fnExactCheckpointEngineUptoRow, standIns := [], harness := (true, "cff0790423b5df951cc606f0fc8fb4ad82e67faf05c9a9573691dcb8680664a3"), looks := true }, kinds := [], alts := [], laidByText := true, laidKinds := [.data, .data, .data, .data, .sentinel, .sentinel, .pinned], laidTests := true, laidLooks := .later }
def FnExactCheckpointEngineUptoCardSaid : Prop := Claim7.holds Tryz.pinned (.plain (OpenSpec.upto fnExactCheckpointEngineSpec)) fnExactCheckpointEngineUptoCard

/-- THE SECOND FORM's CARD OF 'laws.FnExactEngineCompact'. -/
def fnExactEngineCompactUptoCard : Claim7 := { stood := { row := fnExactEngineCompactUptoRow, standIns := [], harness := (true, "cff0790423b5df951cc606f0fc8fb4ad82e67faf05c9a9573691dcb8680664a3"), looks := true }, kinds := [], alts := [], laidByText := true, laidKinds := [.data, .data, .data, .data, .sentinel, .sentinel, .pinned], laidTests := true, laidLooks := .later }
def FnExactEngineCompactUptoCardSaid : Prop := Claim7.holds Tryz.pinned (.plain (OpenSpec.upto fnExactEngineCompactSpec)) fnExactEngineCompactUptoCard

/-- THE SECOND FORM's CARD OF 'laws.FnExactEngineUnregister'. -/
def fnExactEngineUnregisterUptoCard : Claim7 := { stood := { row := fnExactEngineUnregisterUptoRow, standIns := [], harness := (true, "cff0790423b5df951cc606f0fc8fb4ad82e67faf05c9a9573691dcb8680664a3"), looks := true }, kinds := [], alts := [], laidByText := true, laidKinds := [.data, .data, .data, .data, .sentinel, .sentinel, .pinned], laidTests := true, laidLooks := .later }
def FnExactEngineUnregisterUptoCardSaid : Prop := Claim7.holds Tryz.pinned (.plain (OpenSpec.upto fnExactEngineUnregisterSpec)) fnExactEngineUnregisterUptoCard

/-- THE SECOND FORM's CARD OF 'laws.FnExactEngineSubscribe'. -/
def fnExactEngineSubscribeUptoCard : Claim7 := { stood := { row := fnExactEngineSubscribeUptoRow, standIns := [], harness := (true, "cff0790423b5df951cc606f0fc8fb4ad82e67faf05c9a9573691dcb8680664a3"), looks := true }, kinds := [], alts := [], laidByText := true, laidKinds := [.data, .data, .data, .data, .sentinel, .sentinel, .pinned], laidTests := true, laidLooks := .later }
def FnExactEngineSubscribeUptoCardSaid : Prop := Claim7.holds Tryz.pinned (.plain (OpenSpec.upto fnExactEngineSubscribeSpec)) fnExactEngineSubscribeUptoCard

/-- THE SECOND FORM's CARD OF 'laws.FnExactEngineRegister'. -/
def fnExactEngineRegisterUptoCard : Claim7 := { stood := { row := fnExactEngineRegisterUptoRow, standIns := [], harness := (true, "cff0790423b5df951cc606f0fc8fb4ad82e67faf05c9a9573691dcb8680664a3"), looks := true }, kinds := [], alts := [], laidByText := true, laidKinds := [.data, .data, .data, .data, .sentinel, .sentinel, .pinned], laidTests := true, laidLooks := .later }
def FnExactEngineRegisterUptoCardSaid : Prop := Claim7.holds Tryz.pinned (.plain (OpenSpec.upto fnExactEngineRegisterSpec)) fnExactEngineRegisterUptoCard

/-- THE SECOND FORM's CARD OF 'laws.FnExactEngineApply'. -/
def fnExactEngineApplyUptoCard : Claim7 := { stood := { row := fnExactEngineApplyUptoRow, standIns := [], harness := (true, "cff0790423b5df951cc606f0fc8fb4ad82e67faf05c9a9573691dcb8680664a3"), looks := true }, kinds := [], alts := [], laidByText := true, laidKinds := [.data, .data, .data, .data, .sentinel, .sentinel, .pinned], laidTests := true, laidLooks := .later }
def FnExactEngineApplyUptoCardSaid : Prop := Claim7.holds Tryz.pinned (.plain (OpenSpec.upto fnExactEngineApplySpec)) fnExactEngineApplyUptoCard
end Rows
end Go.Proofs.YtilionjghdjbdaaGreatDoor
