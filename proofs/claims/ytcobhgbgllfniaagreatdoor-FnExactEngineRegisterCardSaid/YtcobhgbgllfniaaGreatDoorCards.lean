/-
  DERIVED. GIVEN WITH THE SEED: THE CARDS: each row of YtcobhgbgllfniaaGreatDoorRows.lean that lists a variable, with what it lists TIED to the program's text (the seventh form; the later family's looks); each row that meets fmt, with fmt's text TOLD by the authors' own Lean function (tested against real Go, not proved from fmt's source: count such statements apart). THE CARD IS WHAT COUNTS. Prove the row's statement (the work); the ties are given (YtcobhgbgllfniaaGreatDoorTie.lean); close each card by the builder's one call (the guide's Derived/Test/ToyasCard.lean, 'card_holds'). Laid BY PROGRAM, IN A SANDBOX (cutbox-door.mjs). By AI agents, Wed Nov 11 2026. No macro, syntax, notation, axiom, sorry.
-/
import Derived.Test.YtcobhgbgllfniaaGreatDoorRows
import GoSem.ClaimSeven
namespace Go.Proofs.YtcobhgbgllfniaaGreatDoor
namespace Rows

/-- THE TIED CARD OF 'laws.FnRecovery'. -/
def fnRecoveryCard : Claim7 := { stood := { row := fnRecoveryRow, standIns := [], harness := (true, "0d5d7dc186e6548009e7c177a393f50aa43d1fe9f92aa0faff0da6829b1a4e42"), looks := true }, kinds := [], alts := [], laidByText := true, laidKinds := [.data, .data, .data, .data, .sentinel, .sentinel, .pinned], laidTests := true, laidLooks := .later }
def FnRecoveryCardSaid : Prop := Claim7.holds Tryz.pinned (.plain (OpenSpec.ofChange fnRecoverySpec)) fnRecoveryCard

/-- THE TIED CARD OF 'laws.FnExactReplayLog'. -/
def fnExactReplayLogCard : Claim7 := { stood := { row := fnExactReplayLogRow, standIns := [], harness := (true, "0d5d7dc186e6548009e7c177a393f50aa43d1fe9f92aa0faff0da6829b1a4e42"), looks := true }, kinds := [], alts := [], laidByText := true, laidKinds := [.data, .data, .data, .data, .sentinel, .sentinel, .pinned], laidTests := true, laidLooks := .later }
def FnExactReplayLogCardSaid : Prop := Claim7.holds Tryz.pinned (.plain (OpenSpec.ofChange fnExactReplayLogSpec)) fnExactReplayLogCard

/-- THE TIED CARD OF 'laws.FnExactSurvivingVersion'. -/
def fnExactSurvivingVersionCard : Claim7 := { stood := { row := fnExactSurvivingVersionRow, standIns := [], harness := (true, "0d5d7dc186e6548009e7c177a393f50aa43d1fe9f92aa0faff0da6829b1a4e42"), looks := true }, kinds := [], alts := [], laidByText := true, laidKinds := [.data, .data, .data, .data, .sentinel, .sentinel, .pinned], laidTests := true, laidLooks := .later }
def FnExactSurvivingVersionCardSaid : Prop := Claim7.holds Tryz.pinned (.plain (OpenSpec.ofChange fnExactSurvivingVersionSpec)) fnExactSurvivingVersionCard

/-- THE TIED CARD OF 'laws.FnExactEngineRegister'. -/
def fnExactEngineRegisterCard : Claim7 := { stood := { row := fnExactEngineRegisterRow, standIns := [], harness := (true, "0d5d7dc186e6548009e7c177a393f50aa43d1fe9f92aa0faff0da6829b1a4e42"), looks := true }, kinds := [], alts := [], laidByText := true, laidKinds := [.data, .data, .data, .data, .sentinel, .sentinel, .pinned], laidTests := true, laidLooks := .later }
def FnExactEngineRegisterCardSaid : Prop := Claim7.holds Tryz.pinned (.plain (OpenSpec.ofChange fnExactEngineRegisterSpec)) fnExactEngineRegisterCard

/-- THE TIED CARD OF 'laws.FnEngineSteps'. -/
def fnEngineStepsCard : Claim7 := { stood := { row := fnEngineStepsRow, standIns := [], harness := (true, "0d5d7dc186e6548009e7c177a393f50aa43d1fe9f92aa0faff0da6829b1a4e42"), looks := true }, kinds := [], alts := [], laidByText := true, laidKinds := [.data, .data, .data, .data, .sentinel, .sentinel, .pinned], laidTests := true, laidLooks := .later }
def FnEngineStepsCardSaid : Prop := Claim7.holds Tryz.pinned (.plain (OpenSpec.ofChange fnEngineStepsSpec)) fnEngineStepsCard

/-- THE TIED CARD OF 'laws.FnExactRecoverEngine'. -/
def fnExactRecoverEngineCard : Claim7 := { stood := { row := fnExactRecoverEngineRow, standIns := [], harness := (true, "0d5d7dc186e6548009e7c177a393f50aa43d1fe9f92aa0faff0da6829b1a4e42"), looks := true }, kinds := [], alts := [], laidByText := true, laidKinds := [.data, .data, .data, .data, .sentinel, .sentinel, .pinned], laidTests := true, laidLooks := .later }
def FnExactRecoverEngineCardSaid : Prop := Claim7.holds Tryz.pinned (.plain (OpenSpec.ofChange fnExactRecoverEngineSpec)) fnExactRecoverEngineCard

/-- THE SECOND FORM's CARD OF 'laws.FnRecovery'. -/
def fnRecoveryUptoCard : Claim7 := { stood := { row := fnRecoveryUptoRow, standIns := [], harness := (true, "0d5d7dc186e6548009e7c177a393f50aa43d1fe9f92aa0faff0da6829b1a4e42"), looks := true }, kinds := [], alts := [], laidByText := true, laidKinds := [.data, .data, .data, .data, .sentinel, .sentinel, .pinned], laidTests := true, laidLooks := .later }
def FnRecoveryUptoCardSaid : Prop := Claim7.holds Tryz.pinned (.plain (OpenSpec.upto fnRecoverySpec)) fnRecoveryUptoCard

/-- THE SECOND FORM's CARD OF 'laws.FnExactReplayLog'. -/
def fnExactReplayLogUptoCard : Claim7 := { stood := { row := fnExactReplayLogUptoRow, standIns := [], harness := (true, "0d5d7dc186e6548009e7c177a393f50aa43d1fe9f92aa0faff0da6829b1a4e42"), looks := true }, kinds := [], alts := [], laidByText := true, laidKinds := [.data, .data, .data, .data, .sentinel, .sentinel, .pinned], laidTests := true, laidLooks := .later }
def FnExactReplayLogUptoCardSaid : Prop := Claim7.holds Tryz.pinned (.plain (OpenSpec.upto fnExactReplayLogSpec)) fnExactReplayLogUptoCard

/-- THE SECOND FORM's CARD OF 'laws.FnExactSurvivingVersion'. -/
def fnExactSurvivingVersionUptoCard : Claim7 := { stood := { row := fnExactSurvivingVersionUptoRow, standIns := [], harness := (true, "0d5d7dc186e6548009e7c177a393f50aa43d1fe9f92aa0faff0da6829b1a4e42"), looks := true }, kinds := [], alts := [], laidByText := true, laidKinds := [.data, .data, .data, .data, .sentinel, .sentinel, .pinned], laidTests := true, laidLooks := .later }
def FnExactSurvivingVersionUptoCardSaid : Prop := Claim7.holds Tryz.pinned (.plain (OpenSpec.upto fnExactSurvivingVersionSpec)) fnExactSurvivingVersionUptoCard

/-- THE SECOND FORM's CARD OF 'laws.FnExactEngineRegister'. -/
def fnExactEngineRegisterUptoCard : Claim7 := { stood := { row := fnExactEngineRegisterUptoRow, standIns := [], harness := (true, "0d5d7dc186e6548009e7c177a393f50aa43d1fe9f92aa0faff0da6829b1a4e42"), looks := true }, kinds := [], alts := [], laidByText := true, laidKinds := [.data, .data, .data, .data, .sentinel, .sentinel, .pinned], laidTests := true, laidLooks := .later }
def FnExactEngineRegisterUptoCardSaid : Prop := Claim7.holds Tryz.pinned (.plain (OpenSpec.upto fnExactEngineRegisterSpec)) fnExactEngineRegisterUptoCard

/-- THE SECOND FORM's CARD OF 'laws.FnEngineSteps'. -/
def fnEngineStepsUptoCard : Claim7 := { stood := { row := fnEngineStepsUptoRow, standIns := [], harness := (true, "0d5d7dc186e6548009e7c177a393f50aa43d1fe9f92aa0faff0da6829b1a4e42"), looks := true }, kinds := [], alts := [], laidByText := true, laidKinds := [.data, .data, .data, .data, .sentinel, .sentinel, .pinned], laidTests := true, laidLooks := .later }
def FnEngineStepsUptoCardSaid : Prop := Claim7.holds Tryz.pinned (.plain (OpenSpec.upto fnEngineStepsSpec)) fnEngineStepsUptoCard

/-- THE SECOND FORM's CARD OF 'laws.FnExactRecoverEngine'. -/
def fnExactRecoverEngineUptoCard : Claim7 := { stood := { row := fnExactRecoverEngineUptoRow, standIns := [], harness := (true, "0d5d7dc186e6548009e7c177a393f50aa43d1fe9f92aa0faff0da6829b1a4e42"), looks := true }, kinds := [], alts := [], laidByText := true, laidKinds := [.data, .data, .data, .data, .sentinel, .sentinel, .pinned], laidTests := true, laidLooks := .later }
def FnExactRecoverEngineUptoCardSaid : Prop := Claim7.holds Tryz.pinned (.plain (OpenSpec.upto fnExactRecoverEngineSpec)) fnExactRecoverEngineUptoCard
end Rows
end Go.Proofs.YtcobhgbgllfniaaGreatDoor
