/-
  DERIVED. GIVEN WITH THE SEED: THE CARDS: each row of YteamkimbmdgdbaaGreatDoorRows.lean that lists a variable, with what it lists TIED to the program's text (the seventh form; the later family's looks); each row that meets fmt, with fmt's text TOLD by the authors' own Lean function (tested against real Go, not proved from fmt's source: count such statements apart). THE CARD IS WHAT COUNTS. Prove the row's statement (the work); the ties are given (YteamkimbmdgdbaaGreatDoorTie.lean); close each card by the builder's one call (the guide's Derived/Test/ToyasCard.lean, 'card_holds'). Laid BY PROGRAM, IN A SANDBOX (cutbox-door.mjs). By AI agents, Wed Nov 11 2026. No macro, syntax, notation, axiom, sorry.
-/
import Derived.Test.YteamkimbmdgdbaaGreatDoorRows
import GoSem.ClaimSeven
namespace Go.Proofs.YteamkimbmdgdbaaGreatDoor
namespace Rows

/-- THE TIED CARD OF 'cleanselaw10.ResolveMatchesReference'. -/
def resolveMatchesReferenceCard : Claim7 := { stood := { row := resolveMatchesReferenceRow, standIns := [], harness := (true, "670d49e118000d051baa9ef9a274710a54e8edfb9bf1efd94f78c5d3578615b5"), looks := true }, kinds := [], alts := [], laidByText := true, laidKinds := [.data, .data, .data, .sentinel, .sentinel, .widerDeep], laidTests := true, laidLooks := .later }
def ResolveMatchesReferenceCardSaid : Prop := Claim7.holds Tryz.pinned (.plain (OpenSpec.ofChange resolveMatchesReferenceSpec)) resolveMatchesReferenceCard

/-- THE TIED CARD OF 'cleanselaw10.ResolveTexts'. -/
def resolveTextsCard : Claim7 := { stood := { row := resolveTextsRow, standIns := [], harness := (true, "670d49e118000d051baa9ef9a274710a54e8edfb9bf1efd94f78c5d3578615b5"), looks := true }, kinds := [], alts := [], laidByText := true, laidKinds := [.data, .data, .data, .sentinel, .sentinel, .widerDeep], laidTests := true, laidLooks := .later }
def ResolveTextsCardSaid : Prop := Claim7.holds Tryz.pinned (.plain (OpenSpec.ofChange resolveTextsSpec)) resolveTextsCard

/-- THE TIED CARD OF 'cleanselaw10.ResolveFormed'. -/
def resolveFormedCard : Claim7 := { stood := { row := resolveFormedRow, standIns := [], harness := (true, "670d49e118000d051baa9ef9a274710a54e8edfb9bf1efd94f78c5d3578615b5"), looks := true }, kinds := [], alts := [], laidByText := true, laidKinds := [.data, .data, .data, .sentinel, .sentinel, .widerDeep], laidTests := true, laidLooks := .later }
def ResolveFormedCardSaid : Prop := Claim7.holds Tryz.pinned (.plain (OpenSpec.ofChange resolveFormedSpec)) resolveFormedCard

/-- THE TIED CARD OF 'cleanselaw10.ResolveOrder'. -/
def resolveOrderCard : Claim7 := { stood := { row := resolveOrderRow, standIns := [], harness := (true, "670d49e118000d051baa9ef9a274710a54e8edfb9bf1efd94f78c5d3578615b5"), looks := true }, kinds := [], alts := [], laidByText := true, laidKinds := [.data, .data, .data, .sentinel, .sentinel, .widerDeep], laidTests := true, laidLooks := .later }
def ResolveOrderCardSaid : Prop := Claim7.holds Tryz.pinned (.plain (OpenSpec.ofChange resolveOrderSpec)) resolveOrderCard

/-- THE TIED CARD OF 'cleanselaw10.ResolveNames'. -/
def resolveNamesCard : Claim7 := { stood := { row := resolveNamesRow, standIns := [], harness := (true, "670d49e118000d051baa9ef9a274710a54e8edfb9bf1efd94f78c5d3578615b5"), looks := true }, kinds := [], alts := [], laidByText := true, laidKinds := [.data, .data, .data, .sentinel, .sentinel, .widerDeep], laidTests := true, laidLooks := .later }
def ResolveNamesCardSaid : Prop := Claim7.holds Tryz.pinned (.plain (OpenSpec.ofChange resolveNamesSpec)) resolveNamesCard

/-- THE TIED CARD OF 'cleanselaw10.ResolveFaults'. -/
def resolveFaultsCard : Claim7 := { stood := { row := resolveFaultsRow, standIns := [], harness := (true, "670d49e118000d051baa9ef9a274710a54e8edfb9bf1efd94f78c5d3578615b5"), looks := true }, kinds := [], alts := [], laidByText := true, laidKinds := [.data, .data, .data, .sentinel, .sentinel, .widerDeep], laidTests := true, laidLooks := .later }
def ResolveFaultsCardSaid : Prop := Claim7.holds Tryz.pinned (.plain (OpenSpec.ofChange resolveFaultsSpec)) resolveFaultsCard

/-- THE TIED CARD OF 'cleanselaw10.ResolveRenamed'. -/
def resolveRenamedCard : Claim7 := { stood := { row := resolveRenamedRow, standIns := [], harness := (true, "670d49e118000d051baa9ef9a274710a54e8edfb9bf1efd94f78c5d3578615b5"), looks := true }, kinds := [], alts := [], laidByText := true, laidKinds := [.data, .data, .data, .sentinel, .sentinel, .widerDeep], laidTests := true, laidLooks := .later }
def ResolveRenamedCardSaid : Prop := Claim7.holds Tryz.pinned (.plain (OpenSpec.ofChange resolveRenamedSpec)) resolveRenamedCard

/-- THE TIED CARD OF 'cleanselaw10.ResolveKinds'. -/
def resolveKindsCard : Claim7 := { stood := { row := resolveKindsRow, standIns := [], harness := (true, "670d49e118000d051baa9ef9a274710a54e8edfb9bf1efd94f78c5d3578615b5"), looks := true }, kinds := [], alts := [], laidByText := true, laidKinds := [.data, .data, .data, .sentinel, .sentinel, .widerDeep], laidTests := true, laidLooks := .later }
def ResolveKindsCardSaid : Prop := Claim7.holds Tryz.pinned (.plain (OpenSpec.ofChange resolveKindsSpec)) resolveKindsCard

/-- THE TIED CARD OF 'cleanselaw10.ResolveAdded'. -/
def resolveAddedCard : Claim7 := { stood := { row := resolveAddedRow, standIns := [], harness := (true, "670d49e118000d051baa9ef9a274710a54e8edfb9bf1efd94f78c5d3578615b5"), looks := true }, kinds := [], alts := [], laidByText := true, laidKinds := [.data, .data, .data, .sentinel, .sentinel, .widerDeep], laidTests := true, laidLooks := .later }
def ResolveAddedCardSaid : Prop := Claim7.holds Tryz.pinned (.plain (OpenSpec.ofChange resolveAddedSpec)) resolveAddedCard

/-- THE SECOND FORM's CARD OF 'cleanselaw10.ResolveMatchesReference'. -/
def resolveMatchesReferenceUptoCard : Claim7 := { stood := { row := resolveMatchesReferenceUptoRow, standIns := [], harness := (true, "670d49e118000d051baa9ef9a274710a54e8edfb9bf1efd94f78c5d3578615b5"), looks := true }, kinds := [], alts := [], laidByText := true, laidKinds := [.data, .data, .data, .sentinel, .sentinel, .widerDeep], laidTests := true, laidLooks := .later }
def ResolveMatchesReferenceUptoCardSaid : Prop := Claim7.holds Tryz.pinned (.plain (OpenSpec.upto resolveMatchesReferenceSpec)) resolveMatchesReferenceUptoCard

/-- THE SECOND FORM's CARD OF 'cleanselaw10.ResolveTexts'. -/
def resolveTextsUptoCard : Claim7 := { stood := { row := resolveTextsUptoRow, standIns := [], harness := (true, "670d49e118000d051baa9ef9a274710a54e8edfb9bf1efd94f78c5d3578615b5"), looks := true }, kinds := [], alts := [], laidByText := true, laidKinds := [.data, .data, .data, .sentinel, .sentinel, .widerDeep], laidTests := true, laidLooks := .later }
def ResolveTextsUptoCardSaid : Prop := Claim7.holds Tryz.pinned (.plain (OpenSpec.upto resolveTextsSpec)) resolveTextsUptoCard

/-- THE SECOND FORM's CARD OF 'cleanselaw10.ResolveFormed'. -/
def resolveFormedUptoCard : Claim7 := { stood := { row := resolveFormedUptoRow, standIns := [], harness := (true, "670d49e118000d051baa9ef9a274710a54e8edfb9bf1efd94f78c5d3578615b5"), looks := true }, kinds := [], alts := [], laidByText := true, laidKinds := [.data, .data, .data, .sentinel, .sentinel, .widerDeep], laidTests := true, laidLooks := .later }
def ResolveFormedUptoCardSaid : Prop := Claim7.holds Tryz.pinned (.plain (OpenSpec.upto resolveFormedSpec)) resolveFormedUptoCard

/-- THE SECOND FORM's CARD OF 'cleanselaw10.ResolveOrder'. -/
def resolveOrderUptoCard : Claim7 := { stood := { row := resolveOrderUptoRow, standIns := [], harness := (true, "670d49e118000d051baa9ef9a274710a54e8edfb9bf1efd94f78c5d3578615b5"), looks := true }, kinds := [], alts := [], laidByText := true, laidKinds := [.data, .data, .data, .sentinel, .sentinel, .widerDeep], laidTests := true, laidLooks := .later }
def ResolveOrderUptoCardSaid : Prop := Claim7.holds Tryz.pinned (.plain (OpenSpec.upto resolveOrderSpec)) resolveOrderUptoCard

/-- THE SECOND FORM's CARD OF 'cleanselaw10.ResolveNames'. -/
def resolveNamesUptoCard : Claim7 := { stood := { row := resolveNamesUptoRow, standIns := [], harness := (true, "670d49e118000d051baa9ef9a274710a54e8edfb9bf1efd94f78c5d3578615b5"), looks := true }, kinds := [], alts := [], laidByText := true, laidKinds := [.data, .data, .data, .sentinel, .sentinel, .widerDeep], laidTests := true, laidLooks := .later }
def ResolveNamesUptoCardSaid : Prop := Claim7.holds Tryz.pinned (.plain (OpenSpec.upto resolveNamesSpec)) resolveNamesUptoCard

/-- THE SECOND FORM's CARD OF 'cleanselaw10.ResolveFaults'. -/
def resolveFaultsUptoCard : Claim7 := { stood := { row := resolveFaultsUptoRow, standIns := [], harness := (true, "670d49e118000d051baa9ef9a274710a54e8edfb9bf1efd94f78c5d3578615b5"), looks := true }, kinds := [], alts := [], laidByText := true, laidKinds := [.data, .data, .data, .sentinel, .sentinel, .widerDeep], laidTests := true, laidLooks := .later }
def ResolveFaultsUptoCardSaid : Prop := Claim7.holds Tryz.pinned (.plain (OpenSpec.upto resolveFaultsSpec)) resolveFaultsUptoCard

/-- THE SECOND FORM's CARD OF 'cleanselaw10.ResolveRenamed'. -/
def resolveRenamedUptoCard : Claim7 := { stood := { row := resolveRenamedUptoRow, standIns := [], harness := (true, "670d49e118000d051baa9ef9a274710a54e8edfb9bf1efd94f78c5d3578615b5"), looks := true }, kinds := [], alts := [], laidByText := true, laidKinds := [.data, .data, .data, .sentinel, .sentinel, .widerDeep], laidTests := true, laidLooks := .later }
def ResolveRenamedUptoCardSaid : Prop := Claim7.holds Tryz.pinned (.plain (OpenSpec.upto resolveRenamedSpec)) resolveRenamedUptoCard

/-- THE SECOND FORM's CARD OF 'cleanselaw10.ResolveKinds'. -/
def resolveKindsUptoCard : Claim7 := { stood := { row := resolveKindsUptoRow, standIns := [], harness := (true, "670d49e118000d051baa9ef9a274710a54e8edfb9bf1efd94f78c5d3578615b5"), looks := true }, kinds := [], alts := [], laidByText := true, laidKinds := [.data, .data, .data, .sentinel, .sentinel, .widerDeep], laidTests := true, laidLooks := .later }
def ResolveKindsUptoCardSaid : Prop := Claim7.holds Tryz.pinned (.plain (OpenSpec.upto resolveKindsSpec)) resolveKindsUptoCard

/-- THE SECOND FORM's CARD OF 'cleanselaw10.ResolveAdded'. -/
def resolveAddedUptoCard : Claim7 := { stood := { row := resolveAddedUptoRow, standIns := [], harness := (true, "670d49e118000d051baa9ef9a274710a54e8edfb9bf1efd94f78c5d3578615b5"), looks := true }, kinds := [], alts := [], laidByText := true, laidKinds := [.data, .data, .data, .sentinel, .sentinel, .widerDeep], laidTests := true, laidLooks := .later }
def ResolveAddedUptoCardSaid : Prop := Claim7.holds Tryz.pinned (.plain (OpenSpec.upto resolveAddedSpec)) resolveAddedUptoCard
end Rows
end Go.Proofs.YteamkimbmdgdbaaGreatDoor
