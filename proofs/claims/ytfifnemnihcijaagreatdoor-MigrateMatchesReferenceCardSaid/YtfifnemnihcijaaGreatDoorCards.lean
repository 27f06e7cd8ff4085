/-
  DERIVED. GIVEN WITH THE SEED: THE CARDS: each row of YtfifnemnihcijaaGreatDoorRows.lean that lists a variable, with what it lists TIED to the program's text (the seventh form; the later family's looks); each row that meets fmt, with fmt's text TOLD by the authors' own Lean function (tested against real Go, not proved from fmt's source: count such statements apart). THE CARD IS WHAT COUNTS. Prove the row's statement (the work); the ties are given (YtfifnemnihcijaaGreatDoorTie.lean); close each card by the builder's one call (the guide's Derived/Test/ToyasCard.lean, 'card_holds'). Laid BY PROGRAM, IN A SANDBOX (cutbox-door.mjs). By AI agents, Wed Nov 11 2026. No macro, syntax, notation, axiom, sorry.
-/
import Derived.Test.YtfifnemnihcijaaGreatDoorRows
import GoSem.ClaimSeven
namespace Go.Proofs.YtfifnemnihcijaaGreatDoor
namespace Rows

/-- THE TIED CARD OF 'cleanselaw06.SchemaMatchesReference'. -/
def schemaMatchesReferenceCard : Claim7 := { stood := { row := schemaMatchesReferenceRow, standIns := [], harness := (true, "df6a787213ec4589f3668133f997b566695e89423c41cd3db1847e341665544c"), looks := true }, kinds := [], alts := [], laidByText := true, laidKinds := [.data, .data, .data, .sentinel, .sentinel], laidTests := true, laidLooks := .later }
def SchemaMatchesReferenceCardSaid : Prop := Claim7.holds Tryz.pinned (.plain (OpenSpec.ofChange schemaMatchesReferenceSpec)) schemaMatchesReferenceCard

/-- THE TIED CARD OF 'cleanselaw43.MigrateMatchesReference'. -/
def migrateMatchesReferenceCard : Claim7 := { stood := { row := migrateMatchesReferenceRow, standIns := [], harness := (true, "df6a787213ec4589f3668133f997b566695e89423c41cd3db1847e341665544c"), looks := true }, kinds := [], alts := [], laidByText := true, laidKinds := [.data, .data, .data, .sentinel, .sentinel], laidTests := true, laidLooks := .later }
def MigrateMatchesReferenceCardSaid : Prop := Claim7.holds Tryz.pinned (.plain (OpenSpec.ofChange migrateMatchesReferenceSpec)) migrateMatchesReferenceCard

/-- THE SECOND FORM's CARD OF 'cleanselaw06.SchemaMatchesReference'. -/
def schemaMatchesReferenceUptoCard : Claim7 := { stood := { row := schemaMatchesReferenceUptoRow, standIns := [], harness := (true, "df6a787213ec4589f3668133f997b566695e89423c41cd3db1847e341665544c"), looks := true }, kinds := [], alts := [], laidByText := true, laidKinds := [.data, .data, .data, .sentinel, .sentinel], laidTests := true, laidLooks := .later }
def SchemaMatchesReferenceUptoCardSaid : Prop := Claim7.holds Tryz.pinned (.plain (OpenSpec.upto schemaMatchesReferenceSpec)) schemaMatchesReferenceUptoCard

/-- THE SECOND FORM's CARD OF 'cleanselaw43.MigrateMatchesReference'. -/
def migrateMatchesReferenceUptoCard : Claim7 := { stood := { row := migrateMatchesReferenceUptoRow, standIns := [], harness := (true, "df6a787213ec4589f3668133f997b566695e89423c41cd3db1847e341665544c"), looks := true }, kinds := [], alts := [], laidByText := true, laidKinds := [.data, .data, .data, .sentinel, .sentinel], laidTests := true, laidLooks := .later }
def MigrateMatchesReferenceUptoCardSaid : Prop := Claim7.holds Tryz.pinned (.plain (OpenSpec.upto migrateMatchesReferenceSpec)) migrateMatchesReferenceUptoCard
end Rows
end Go.Proofs.YtfifnemnihcijaaGreatDoor
