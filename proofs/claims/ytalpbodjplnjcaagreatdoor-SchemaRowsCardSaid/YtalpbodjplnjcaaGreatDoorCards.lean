/-
  DERIVED. GIVEN WITH THE SEED: THE CARDS: each row of YtalpbodjplnjcaaGreatDoorRows.lean that lists a variable, with what it lists TIED to the program's text (the seventh form; the later family's looks); each row that meets fmt, with fmt's text TOLD by the authors' own Lean function (tested against real Go, not proved from fmt's source: count such statements apart). THE CARD IS WHAT COUNTS. Prove the row's statement (the work); the ties are given (YtalpbodjplnjcaaGreatDoorTie.lean); close each card by the builder's one call (the guide's Derived/Test/ToyasCard.lean, 'card_holds'). Laid BY PROGRAM, IN A SANDBOX (cutbox-door.mjs). By AI agents, Wed Nov 11 2026. No macro, syntax, notation, axiom, sorry.
-/
import Derived.Test.YtalpbodjplnjcaaGreatDoorRows
import GoSem.ClaimSeven
namespace Go.Proofs.YtalpbodjplnjcaaGreatDoor
namespace Rows

/-- THE TIED CARD OF 'cleanselaw06.SchemaMatchesReference'. -/
def schemaMatchesReferenceCard : Claim7 := { stood := { row := schemaMatchesReferenceRow, standIns := [], harness := (true, "e70708d7ea70ddd0d765f569dded06d08c273da0afe03353f98e21ff730a0dfe"), looks := true }, kinds := [], alts := [], laidByText := true, laidKinds := [.data, .data, .data, .sentinel, .sentinel], laidTests := true, laidLooks := .later }
def SchemaMatchesReferenceCardSaid : Prop := Claim7.holds Tryz.pinned (.plain (OpenSpec.ofChange schemaMatchesReferenceSpec)) schemaMatchesReferenceCard

/-- THE TIED CARD OF 'cleanselaw06.SchemaChanges'. -/
def schemaChangesCard : Claim7 := { stood := { row := schemaChangesRow, standIns := [], harness := (true, "e70708d7ea70ddd0d765f569dded06d08c273da0afe03353f98e21ff730a0dfe"), looks := true }, kinds := [], alts := [], laidByText := true, laidKinds := [.data, .data, .data, .sentinel, .sentinel], laidTests := true, laidLooks := .later }
def SchemaChangesCardSaid : Prop := Claim7.holds Tryz.pinned (.plain (OpenSpec.ofChange schemaChangesSpec)) schemaChangesCard

/-- THE TIED CARD OF 'cleanselaw06.SchemaNames'. -/
def schemaNamesCard : Claim7 := { stood := { row := schemaNamesRow, standIns := [], harness := (true, "e70708d7ea70ddd0d765f569dded06d08c273da0afe03353f98e21ff730a0dfe"), looks := true }, kinds := [], alts := [], laidByText := true, laidKinds := [.data, .data, .data, .sentinel, .sentinel], laidTests := true, laidLooks := .later }
def SchemaNamesCardSaid : Prop := Claim7.holds Tryz.pinned (.plain (OpenSpec.ofChange schemaNamesSpec)) schemaNamesCard

/-- THE TIED CARD OF 'cleanselaw06.SchemaRows'. -/
def schemaRowsCard : Claim7 := { stood := { row := schemaRowsRow, standIns := [], harness := (true, "e70708d7ea70ddd0d765f569dded06d08c273da0afe03353f98e21ff730a0dfe"), looks := true }, kinds := [], alts := [], laidByText := true, laidKinds := [.data, .data, .data, .sentinel, .sentinel], laidTests := true, laidLooks := .later }
def SchemaRowsCardSaid : Prop := Claim7.holds Tryz.pinned (.plain (OpenSpec.ofChange schemaRowsSpec)) schemaRowsCard

/-- THE TIED CARD OF 'cleanselaw06.SchemaBack'. -/
def schemaBackCard : Claim7 := { stood := { row := schemaBackRow, standIns := [], harness := (true, "e70708d7ea70ddd0d765f569dded06d08c273da0afe03353f98e21ff730a0dfe"), looks := true }, kinds := [], alts := [], laidByText := true, laidKinds := [.data, .data, .data, .sentinel, .sentinel], laidTests := true, laidLooks := .later }
def SchemaBackCardSaid : Prop := Claim7.holds Tryz.pinned (.plain (OpenSpec.ofChange schemaBackSpec)) schemaBackCard

/-- THE TIED CARD OF 'cleanselaw06.SchemaTables'. -/
def schemaTablesCard : Claim7 := { stood := { row := schemaTablesRow, standIns := [], harness := (true, "e70708d7ea70ddd0d765f569dded06d08c273da0afe03353f98e21ff730a0dfe"), looks := true }, kinds := [], alts := [], laidByText := true, laidKinds := [.data, .data, .data, .sentinel, .sentinel], laidTests := true, laidLooks := .later }
def SchemaTablesCardSaid : Prop := Claim7.holds Tryz.pinned (.plain (OpenSpec.ofChange schemaTablesSpec)) schemaTablesCard

/-- THE SECOND FORM's CARD OF 'cleanselaw06.SchemaMatchesReference'. -/
def schemaMatchesReferenceUptoCard : Claim7 := { stood := { row := schemaMatchesReferenceUptoRow, standIns := [], harness := (true, "e70708d7ea70ddd0d765f569dded06d08c273da0afe03353f98e21ff730a0dfe"), looks := true }, kinds := [], alts := [], laidByText := true, laidKinds := [.data, .data, .data, .sentinel, .sentinel], laidTests := true, laidLooks := .later }
def SchemaMatchesReferenceUptoCardSaid : Prop := Claim7.holds Tryz.pinned (.plain (OpenSpec.upto schemaMatchesReferenceSpec)) schemaMatchesReferenceUptoCard

/-- THE SECOND FORM's CARD OF 'cleanselaw06.SchemaChanges'. -/
def schemaChangesUptoCard : Claim7 := { stood := { row := schemaChangesUptoRow, standIns := [], harness := (true, "e70708d7ea70ddd0d765f569dded06d08c273da0afe03353f98e21ff730a0dfe"), looks := true }, kinds := [], alts := [], laidByText := true, laidKinds := [.data, .data, .data, .sentinel, .sentinel], laidTests := true, laidLooks := .later }
def SchemaChangesUptoCardSaid : Prop := Claim7.holds Tryz.pinned (.plain (OpenSpec.upto schemaChangesSpec)) schemaChangesUptoCard

/-- THE SECOND FORM's CARD OF 'cleanselaw06.SchemaNames'. -/
def schemaNamesUptoCard : Claim7 := { stood := { row := schemaNamesUptoRow, standIns := [], harness := (true, "e70708d7ea70ddd0d765f569dded06d08c273da0afe03353f98e21ff730a0dfe"), looks := true }, kinds := [], alts := [], laidByText := true, laidKinds := [.data, .data, .data, .sentinel, .sentinel], laidTests := true, laidLooks := .later }
def SchemaNamesUptoCardSaid : Prop := Claim7.holds Tryz.pinned (.plain (OpenSpec.upto schemaNamesSpec)) schemaNamesUptoCard

/-- THE SECOND FORM's CARD OF 'cleanselaw06.SchemaRows'. -/
def schemaRowsUptoCard : Claim7 := { stood := { row := schemaRowsUptoRow, standIns := [], harness := (true, "e70708d7ea70ddd0d765f569dded06d08c273da0afe03353f98e21ff730a0dfe"), looks := true }, kinds := [], alts := [], laidByText := true, laidKinds := [.data, .data, .data, .sentinel, .sentinel], laidTests := true, laidLooks := .later }
def SchemaRowsUptoCardSaid : Prop := Claim7.holds Tryz.pinned (.plain (OpenSpec.upto schemaRowsSpec)) schemaRowsUptoCard

/-- THE SECOND FORM's CARD OF 'cleanselaw06.SchemaBack'. -/
def schemaBackUptoCard : Claim7 := { stood := { row := schemaBackUptoRow, standIns := [], harness := (true, "e70708d7ea70ddd0d765f569dded06d08c273da0afe03353f98e21ff730a0dfe"), looks := true }, kinds := [], alts := [], laidByText := true, laidKinds := [.data, .data, .data, .sentinel, .sentinel], laidTests := true, laidLooks := .later }
def SchemaBackUptoCardSaid : Prop := Claim7.holds Tryz.pinned (.plain (OpenSpec.upto schemaBackSpec)) schemaBackUptoCard

/-- THE SECOND FORM's CARD OF 'cleanselaw06.SchemaTables'. -/
def schemaTablesUptoCard : Claim7 := { stood := { row := schemaTablesUptoRow, standIns := [], harness := (true, "e70708d7ea70ddd0d765f569dded06d08c273da0afe03353f98e21ff730a0dfe"), looks := true }, kinds := [], alts := [], laidByText := true, laidKinds := [.data, .data, .data, .sentinel, .sentinel], laidTests := true, laidLooks := .later }
def SchemaTablesUptoCardSaid : Prop := Claim7.holds Tryz.pinned (.plain (OpenSpec.upto schemaTablesSpec)) schemaTablesUptoCard
end Rows
end Go.Proofs.YtalpbodjplnjcaaGreatDoor
