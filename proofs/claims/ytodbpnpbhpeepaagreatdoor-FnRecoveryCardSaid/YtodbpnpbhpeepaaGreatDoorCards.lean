/-
  DERIVED. GIVEN WITH THE SEED: THE CARDS: each row of YtodbpnpbhpeepaaGreatDoorRows.lean that lists a variable, with what it lists TIED to the program's text (the seventh form; the later family's looks); each row that meets fmt, with fmt's text TOLD by the authors' own Lean function (tested against real Go, not proved from fmt's source: count such statements apart). THE CARD IS WHAT COUNTS. Prove the row's statement (the work); the ties are given (YtodbpnpbhpeepaaGreatDoorTie.lean); close each card by the builder's one call (the guide's Derived/Test/ToyasCard.lean, 'card_holds'). Laid BY PROGRAM, IN A SANDBOX (cutbox-door.mjs). By AI agents, Wed Nov 11 2026. No macro, syntax, notation, axiom, sorry.
-/
import Derived.Test.YtodbpnpbhpeepaaGreatDoorRows
import GoSem.ClaimSeven
namespace Go.Proofs.YtodbpnpbhpeepaaGreatDoor
namespace Rows

/-- THE TIED CARD OF 'laws.FnRecovery'. -/
def fnRecoveryCard : Claim7 := { stood := { row := fnRecoveryRow, standIns := [], harness := (true, "3c499cde14a55990d2571a198b88511f35a3bcefb865e8a21ba7b894b258559b"), looks := true }, kinds := [], alts := [], laidByText := true, laidKinds := [.data, .data, .data, .data, .sentinel, .sentinel, .pinned], laidTests := true, laidLooks := .later }
def FnRecoveryCardSaid : Prop := Claim7.holds Tryz.pinned (.plain (OpenSpec.ofChange fnRecoverySpec)) fnRecoveryCard

/-- THE TIED CARD OF 'laws.FnExactSurvivingVersion'. -/
def fnExactSurvivingVersionCard : Claim7 := { stood := { row := fnExactSurvivingVersionRow, standIns := [], harness := (true, "3c499cde14a55990d2571a198b88511f35a3bcefb865e8a21ba7b894b258559b"), looks := true }, kinds := [], alts := [], laidByText := true, laidKinds := [.data, .data, .data, .data, .sentinel, .sentinel, .pinned], laidTests := true, laidLooks := .later }
def FnExactSurvivingVersionCardSaid : Prop := Claim7.holds Tryz.pinned (.plain (OpenSpec.ofChange fnExactSurvivingVersionSpec)) fnExactSurvivingVersionCard

/-- THE TIED CARD OF 'laws.FnEngineSteps'. -/
def fnEngineStepsCard : Claim7 := { stood := { row := fnEngineStepsRow, standIns := [], harness := (true, "3c499cde14a55990d2571a198b88511f35a3bcefb865e8a21ba7b894b258559b"), looks := true }, kinds := [], alts := [], laidByText := true, laidKinds := [.data, .data, .data, .data, .sentinel, .sentinel, .pinned], laidTests := true, laidLooks := .later }
def FnEngineStepsCardSaid : Prop := Claim7.holds Tryz.pinned (.plain (OpenSpec.ofChange fnEngineStepsSpec)) fnEngineStepsCard

/-- THE TIED CARD OF 'laws.FnExactRecoverEngine'. -/
def fnExactRecoverEngineCard : Claim7 := { stood := { row := fnExactRecoverEngineRow, standIns := [], harness := (true, "3c499cde14a55990d2571a198b88511f35a3bcefb865e8a21ba7b894b258559b"), looks := true }, kinds := [], alts := [], laidByText := true, laidKinds := [.data, .data, .data, .data, .sentinel, .sentinel, .pinned], laidTests := true, laidLooks := .later }
def FnExactRecoverEngineCardSaid : Prop := Claim7.holds Tryz.pinned (.plain (OpenSpec.ofChange fnExactRecoverEngineSpec)) fnExactRecoverEngineCard

/-- THE SECOND FORM's CARD OF 'laws.FnRecovery'. -/
def fnRecoveryUptoCard : Claim7 := { stood := { row := fnRecoveryUptoRow, standIns := [], harness := (true, "3c499cde14a55990d2571a198b88511f35a3bcefb865e8a21ba7b894b258559b"), looks := true }, kinds := [], alts := [], laidByText := true, laidKinds := [.data, .data, .data, .data, .sentinel, .sentinel, .pinned], laidTests := true, laidLooks := .later }
def FnRecoveryUptoCardSaid : Prop := Claim7.holds Tryz.pinned (.plain (OpenSpec.upto fnRecoverySpec)) fnRecoveryUptoCard

/-- THE SECOND FORM's CARD OF 'laws.FnExactSurvivingVersion'. -/
def fnExactSurvivingVersionUptoCard : Claim7 := { stood := { row := fnExactSurvivingVersionUptoRow, standIns := [], harness := (true, "3c499cde14a55990d2571a198b88511f35a3bcefb865e8a21ba7b894b258559b"), looks := true }, kinds := [], alts := [], laidByText := true, laidKinds := [.data, .data, .data, .data, .sentinel, .sentinel, .pinned], laidTests := true, laidLooks := .later }
def FnExactSurvivingVersionUptoCardSaid : Prop := Claim7.holds Tryz.pinned (.plain (OpenSpec.upto fnExactSurvivingVersionSpec)) fnExactSurvivingVersionUptoCard

/-- THE SECOND FORM's CARD OF 'laws.FnEngineSteps'. -/
def fnEngineStepsUptoCard : Claim7 := { stood := { row := fnEngineStepsUptoRow, standIns := [], harness := (true, "3c499cde14a55990d2571a198b88511f35a3bcefb865e8a21ba7b894b258559b"), looks := true }, kinds := [], alts := [], laidByText := true, laidKinds := [.data, .data, .data, .data, .sentinel, .sentinel, .pinned], laidTests := true, laidLooks := .later }
def FnEngineStepsUptoCardSaid : Prop := Claim7.holds Tryz.pinned (.plain (OpenSpec.upto fnEngineStepsSpec)) fnEngineStepsUptoCard

/-- THE SECOND FORM's CARD OF 'laws.FnExactRecoverEngine'. -/
def fnExactRecoverEngineUptoCard : Claim7 := { stood := { row := fnExactRecoverEngineUptoRow, standIns := [], harness := (true, "3c499cde14a55990d2571a198b88511f35a3bcefb865e8a21ba7b894b258559b"), looks := true }, kinds := [], alts := [], laidByText := true, laidKinds := [.data, .data, .data, .data, .sentinel, .sentinel, .pinned], laidTests := true, laidLooks := .later }
def FnExactRecoverEngineUptoCardSaid : Prop := Claim7.holds Tryz.pinned (.plain (OpenSpec.upto fnExactRecoverEngineSpec)) fnExactRecoverEngineUptoCard
end Rows
end Go.Proofs.YtodbpnpbhpeepaaGreatDoor
