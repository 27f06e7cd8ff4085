/-
  DERIVED. GIVEN WITH THE SEED: THE CARDS: each row of YtpakimhhpeaefaaGreatDoorRows.lean that lists a variable, with what it lists TIED to the program's text (the seventh form; the later family's looks); each row that meets fmt, with fmt's text TOLD by the authors' own Lean function (tested against real Go, not proved from fmt's source: count such statements apart). THE CARD IS WHAT COUNTS. Prove the row's statement (the work); the ties are given (YtpakimhhpeaefaaGreatDoorTie.lean); close each card by the builder's one call (the guide's Derived/Test/ToyasCard.lean, 'card_holds'). Laid BY PROGRAM, IN A SANDBOX (cutbox-door.mjs). By AI agents, Wed Nov 11 2026. No macro, syntax, notation, axiom, sorry.
-/
import Derived.Test.YtpakimhhpeaefaaGreatDoorRows
import GoSem.ClaimSeven
namespace Go.Proofs.YtpakimhhpeaefaaGreatDoor
namespace Rows

/-- THE TIED CARD OF 'cleanselaw43.MigrateMatchesReference'. -/
def migrateMatchesReferenceCard : Claim7 := { stood := { row := migrateMatchesReferenceRow, standIns := [], harness := (true, "841f4b24c54e5a45edd8cd684ccf0ec310be02f1d39accc4bd0f9bae458a0aa7"), looks := true }, kinds := [], alts := [], laidByText := true, laidKinds := [.data, .data, .data, .sentinel, .sentinel], laidTests := true, laidLooks := .later }
def MigrateMatchesReferenceCardSaid : Prop := Claim7.holds Tryz.pinned (.plain (OpenSpec.ofChange migrateMatchesReferenceSpec)) migrateMatchesReferenceCard

/-- THE TIED CARD OF 'cleanselaw43.MigrateAtOnce'. -/
def migrateAtOnceCard : Claim7 := { stood := { row := migrateAtOnceRow, standIns := [], harness := (true, "841f4b24c54e5a45edd8cd684ccf0ec310be02f1d39accc4bd0f9bae458a0aa7"), looks := true }, kinds := [], alts := [], laidByText := true, laidKinds := [.data, .data, .data, .sentinel, .sentinel], laidTests := true, laidLooks := .later }
def MigrateAtOnceCardSaid : Prop := Claim7.holds Tryz.pinned (.plain (OpenSpec.ofChange migrateAtOnceSpec)) migrateAtOnceCard

/-- THE TIED CARD OF 'cleanselaw43.MigrateNothing'. -/
def migrateNothingCard : Claim7 := { stood := { row := migrateNothingRow, standIns := [], harness := (true, "841f4b24c54e5a45edd8cd684ccf0ec310be02f1d39accc4bd0f9bae458a0aa7"), looks := true }, kinds := [], alts := [], laidByText := true, laidKinds := [.data, .data, .data, .sentinel, .sentinel], laidTests := true, laidLooks := .later }
def MigrateNothingCardSaid : Prop := Claim7.holds Tryz.pinned (.plain (OpenSpec.ofChange migrateNothingSpec)) migrateNothingCard

/-- THE TIED CARD OF 'cleanselaw43.MigrateSteps'. -/
def migrateStepsCard : Claim7 := { stood := { row := migrateStepsRow, standIns := [], harness := (true, "841f4b24c54e5a45edd8cd684ccf0ec310be02f1d39accc4bd0f9bae458a0aa7"), looks := true }, kinds := [], alts := [], laidByText := true, laidKinds := [.data, .data, .data, .sentinel, .sentinel], laidTests := true, laidLooks := .later }
def MigrateStepsCardSaid : Prop := Claim7.holds Tryz.pinned (.plain (OpenSpec.ofChange migrateStepsSpec)) migrateStepsCard

/-- THE TIED CARD OF 'cleanselaw43.MigrateValid'. -/
def migrateValidCard : Claim7 := { stood := { row := migrateValidRow, standIns := [], harness := (true, "841f4b24c54e5a45edd8cd684ccf0ec310be02f1d39accc4bd0f9bae458a0aa7"), looks := true }, kinds := [], alts := [], laidByText := true, laidKinds := [.data, .data, .data, .sentinel, .sentinel], laidTests := true, laidLooks := .later }
def MigrateValidCardSaid : Prop := Claim7.holds Tryz.pinned (.plain (OpenSpec.ofChange migrateValidSpec)) migrateValidCard

/-- THE TIED CARD OF 'cleanselaw43.MigrateClosed'. -/
def migrateClosedCard : Claim7 := { stood := { row := migrateClosedRow, standIns := [], harness := (true, "841f4b24c54e5a45edd8cd684ccf0ec310be02f1d39accc4bd0f9bae458a0aa7"), looks := true }, kinds := [], alts := [], laidByText := true, laidKinds := [.data, .data, .data, .sentinel, .sentinel], laidTests := true, laidLooks := .later }
def MigrateClosedCardSaid : Prop := Claim7.holds Tryz.pinned (.plain (OpenSpec.ofChange migrateClosedSpec)) migrateClosedCard

/-- THE TIED CARD OF 'cleanselaw06.SchemaMatchesReference'. -/
def schemaMatchesReferenceCard : Claim7 := { stood := { row := schemaMatchesReferenceRow, standIns := [], harness := (true, "841f4b24c54e5a45edd8cd684ccf0ec310be02f1d39accc4bd0f9bae458a0aa7"), looks := true }, kinds := [], alts := [], laidByText := true, laidKinds := [.data, .data, .data, .sentinel, .sentinel], laidTests := true, laidLooks := .later }
def SchemaMatchesReferenceCardSaid : Prop := Claim7.holds Tryz.pinned (.plain (OpenSpec.ofChange schemaMatchesReferenceSpec)) schemaMatchesReferenceCard

/-- THE SECOND FORM's CARD OF 'cleanselaw43.MigrateMatchesReference'. -/
def migrateMatchesReferenceUptoCard : Claim7 := { stood := { row := migrateMatchesReferenceUptoRow, standIns := [], harness := (true, "841f4b24c54e5a45edd8cd684ccf0ec310be02f1d39accc4bd0f9bae458a0aa7"), looks := true }, kinds := [], alts := [], laidByText := true, laidKinds := [.data, .data, .data, .sentinel, .sentinel], laidTests := true, laidLooks := .later }
def MigrateMatchesReferenceUptoCardSaid : Prop := Claim7.holds Tryz.pinned (.plain (OpenSpec.upto migrateMatchesReferenceSpec)) migrateMatchesReferenceUptoCard

/-- THE SECOND FORM's CARD OF 'cleanselaw43.MigrateAtOnce'. -/
def migrateAtOnceUptoCard : Claim7 := { stood := { row := migrateAtOnceUptoRow, standIns := [], harness := (true, "841f4b24c54e5a45edd8cd684ccf0ec310be02f1d39accc4bd0f9bae458a0aa7"), looks := true }, kinds := [], alts := [], laidByText := true, laidKinds := [.data, .data, .data, .sentinel, .sentinel], laidTests := true, laidLooks := .later }
def MigrateAtOnceUptoCardSaid : Prop := Claim7.holds Tryz.pinned (.plain (OpenSpec.upto migrateAtOnceSpec)) migrateAtOnceUptoCard

/-- THE SECOND FORM's CARD OF 'cleanselaw43.MigrateNothing'. -/
def migrateNothingUptoCard : Claim7 := { stood := { row := migrateNothingUptoRow, standIns := [], harness := (true, "841f4b24c54e5a45edd8cd684ccf0ec310be02f1d39accc4bd0f9bae458a0aa7"), looks := true }, kinds := [], alts := [], laidByText := true, laidKinds := [.data, .data, .data, .sentinel, .sentinel], laidTests := true, laidLooks := .later }
def MigrateNothingUptoCardSaid : Prop := Claim7.holds Tryz.pinned (.plain (OpenSpec.upto migrateNothingSpec)) migrateNothingUptoCard

/-- THE SECOND FORM's CARD OF 'cleanselaw43.MigrateSteps'. -/
def migrateStepsUptoCard : Claim7 := { stood := { row := migrateStepsUptoRow, standIns := [], harness := (true, "841f4b24c54e5a45edd8cd684ccf0ec310be02f1d39accc4bd0f9bae458a0aa7"), looks := true }, kinds := [], alts := [], laidByText := true, laidKinds := [.data, .data, .data, .sentinel, .sentinel], laidTests := true, laidLooks := .later }
def MigrateStepsUptoCardSaid : Prop := Claim7.holds Tryz.pinned (.plain (OpenSpec.upto migrateStepsSpec)) migrateStepsUptoCard

/-- THE SECOND FORM's CARD OF 'cleanselaw43.MigrateValid'. -/
def migrateValidUptoCard : Claim7 := { stood := { row := migrateValidUptoRow, standIns := [], harness := (true, "841f4b24c54e5a45edd8cd684ccf0ec310be02f1d39accc4bd0f9bae458a0aa7"), looks := true }, kinds := [], alts := [], laidByText := true, laidKinds := [.data, .data, .data, .sentinel, .sentinel], laidTests := true, laidLooks := .later }
def MigrateValidUptoCardSaid : Prop := Claim7.holds Tryz.pinned (.plain (OpenSpec.upto migrateValidSpec)) migrateValidUptoCard

/-- THE SECOND FORM's CARD OF 'cleanselaw43.MigrateClosed'. -/
def migrateClosedUptoCard : Claim7 := { stood := { row := migrateClosedUptoRow, standIns := [], harness := (true, "841f4b24c54e5a45edd8cd684ccf0ec310be02f1d39accc4bd0f9bae458a0aa7"), looks := true }, kinds := [], alts := [], laidByText := true, laidKinds := [.data, .data, .data, .sentinel, .sentinel], laidTests := true, laidLooks := .later }
def MigrateClosedUptoCardSaid : Prop := Claim7.holds Tryz.pinned (.plain (OpenSpec.upto migrateClosedSpec)) migrateClosedUptoCard

/-- THE SECOND FORM's CARD OF 'cleanselaw06.SchemaMatchesReference'. -/
def schemaMatchesReferenceUptoCard : Claim7 := { stood := { row := schemaMatchesReferenceUptoRow, standIns := [], harness := (true, "841f4b24c54e5a45edd8cd684ccf0ec310be02f1d39accc4bd0f9bae458a0aa7"), looks := true }, kinds := [], alts := [], laidByText := true, laidKinds := [.data, .data, .data, .sentinel, .sentinel], laidTests := true, laidLooks := .later }
def SchemaMatchesReferenceUptoCardSaid : Prop := Claim7.holds Tryz.pinned (.plain (OpenSpec.upto schemaMatchesReferenceSpec)) schemaMatchesReferenceUptoCard
end Rows
end Go.Proofs.YtpakimhhpeaefaaGreatDoor
