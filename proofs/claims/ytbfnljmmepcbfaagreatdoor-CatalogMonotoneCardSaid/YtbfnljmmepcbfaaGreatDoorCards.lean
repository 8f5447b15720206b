/-
  DERIVED. GIVEN WITH THE SEED: THE CARDS: each row of YtbfnljmmepcbfaaGreatDoorRows.lean that lists a variable, with what it lists TIED to the program's text (the seventh form; the later family's looks); each row that meets fmt, with fmt's text TOLD by the authors' own Lean function (tested against real Go, not proved from fmt's source: count such statements apart). THE CARD IS WHAT COUNTS. Prove the row's statement (the work); the ties are given (YtbfnljmmepcbfaaGreatDoorTie.lean); close each card by the builder's one call (the guide's Derived/Test/ToyasCard.lean, 'card_holds'). Laid BY PROGRAM, IN A SANDBOX (cutbox-door.mjs). By AI agents, Wed Nov 11 2026. No macro, syntax, notation, axiom, sorry.
-/
import Derived.Test.YtbfnljmmepcbfaaGreatDoorRows
import GoSem.ClaimSeven
namespace Go.Proofs.YtbfnljmmepcbfaaGreatDoor
namespace Rows

/-- THE TIED CARD OF 'sealwrightlaw34.CatalogNew'. -/
def catalogNewCard : Claim7 := { stood := { row := catalogNewRow, standIns := [], harness := (true, "cc5d9205239b086572da72c95cdbe0600b31a943c60a526cf27e71584c2e116d"), looks := false }, kinds := [], alts := [], laidByText := true, laidKinds := [.data], laidTests := true, laidLooks := .later }
def CatalogNewCardSaid : Prop := Claim7.holds Tryz.pinned (.plain (OpenSpec.ofChange catalogNewSpec)) catalogNewCard

/-- THE TIED CARD OF 'sealwrightlaw34.CatalogAdd'. -/
def catalogAddCard : Claim7 := { stood := { row := catalogAddRow, standIns := [], harness := (true, "cc5d9205239b086572da72c95cdbe0600b31a943c60a526cf27e71584c2e116d"), looks := false }, kinds := [], alts := [], laidByText := true, laidKinds := [.data], laidTests := true, laidLooks := .later }
def CatalogAddCardSaid : Prop := Claim7.holds Tryz.pinned (.plain (OpenSpec.ofChange catalogAddSpec)) catalogAddCard

/-- THE TIED CARD OF 'sealwrightlaw34.CatalogFull'. -/
def catalogFullCard : Claim7 := { stood := { row := catalogFullRow, standIns := [], harness := (true, "cc5d9205239b086572da72c95cdbe0600b31a943c60a526cf27e71584c2e116d"), looks := false }, kinds := [], alts := [], laidByText := true, laidKinds := [.data], laidTests := true, laidLooks := .later }
def CatalogFullCardSaid : Prop := Claim7.holds Tryz.pinned (.plain (OpenSpec.ofChange catalogFullSpec)) catalogFullCard

/-- THE TIED CARD OF 'sealwrightlaw34.CatalogInForce'. -/
def catalogInForceCard : Claim7 := { stood := { row := catalogInForceRow, standIns := [], harness := (true, "cc5d9205239b086572da72c95cdbe0600b31a943c60a526cf27e71584c2e116d"), looks := false }, kinds := [], alts := [], laidByText := true, laidKinds := [.data], laidTests := true, laidLooks := .later }
def CatalogInForceCardSaid : Prop := Claim7.holds Tryz.pinned (.plain (OpenSpec.ofChange catalogInForceSpec)) catalogInForceCard

/-- THE TIED CARD OF 'sealwrightlaw34.CatalogOrder'. -/
def catalogOrderCard : Claim7 := { stood := { row := catalogOrderRow, standIns := [], harness := (true, "cc5d9205239b086572da72c95cdbe0600b31a943c60a526cf27e71584c2e116d"), looks := false }, kinds := [], alts := [], laidByText := true, laidKinds := [.data], laidTests := true, laidLooks := .later }
def CatalogOrderCardSaid : Prop := Claim7.holds Tryz.pinned (.plain (OpenSpec.ofChange catalogOrderSpec)) catalogOrderCard

/-- THE TIED CARD OF 'sealwrightlaw34.CatalogMonotone'. -/
def catalogMonotoneCard : Claim7 := { stood := { row := catalogMonotoneRow, standIns := [], harness := (true, "cc5d9205239b086572da72c95cdbe0600b31a943c60a526cf27e71584c2e116d"), looks := false }, kinds := [], alts := [], laidByText := true, laidKinds := [.data], laidTests := true, laidLooks := .later }
def CatalogMonotoneCardSaid : Prop := Claim7.holds Tryz.pinned (.plain (OpenSpec.ofChange catalogMonotoneSpec)) catalogMonotoneCard

/-- THE SECOND FORM's CARD OF 'sealwrightlaw34.CatalogNew'. -/
def catalogNewUptoCard : Claim7 := { stood := { row := catalogNewUptoRow, standIns := [], harness := (true, "cc5d9205239b086572da72c95cdbe0600b31a943c60a526cf27e71584c2e116d"), looks := false }, kinds := [], alts := [], laidByText := true, laidKinds := [.data], laidTests := true, laidLooks := .later }
def CatalogNewUptoCardSaid : Prop := Claim7.holds Tryz.pinned (.plain (OpenSpec.upto catalogNewSpec)) catalogNewUptoCard

/-- THE SECOND FORM's CARD OF 'sealwrightlaw34.CatalogAdd'. -/
def catalogAddUptoCard : Claim7 := { stood := { row := catalogAddUptoRow, standIns := [], harness := (true, "cc5d9205239b086572da72c95cdbe0600b31a943c60a526cf27e71584c2e116d"), looks := false }, kinds := [], alts := [], laidByText := true, laidKinds := [.data], laidTests := true, laidLooks := .later }
def CatalogAddUptoCardSaid : Prop := Claim7.holds Tryz.pinned (.plain (OpenSpec.upto catalogAddSpec)) catalogAddUptoCard

/-- THE SECOND FORM's CARD OF 'sealwrightlaw34.CatalogFull'. -/
def catalogFullUptoCard : Claim7 := { stood := { row := catalogFullUptoRow, standIns := [], harness := (true, "cc5d9205239b086572da72c95cdbe0600b31a943c60a526cf27e71584c2e116d"), looks := false }, kinds := [], alts := [], laidByText := true, laidKinds := [.data], laidTests := true, laidLooks := .later }
def CatalogFullUptoCardSaid : Prop := Claim7.holds Tryz.pinned (.plain (OpenSpec.upto catalogFullSpec)) catalogFullUptoCard

/-- THE SECOND FORM's CARD OF 'sealwrightlaw34.CatalogInForce'. -/
def catalogInForceUptoCard : Claim7 := { stood := { row := catalogInForceUptoRow, standIns := [], harness := (true, "cc5d9205239b086572da72c95cdbe0600b31a943c60a526cf27e71584c2e116d"), looks := false }, kinds := [], alts := [], laidByText := true, laidKinds := [.data], laidTests := true, laidLooks := .later }
def CatalogInForceUptoCardSaid : Prop := Claim7.holds Tryz.pinned (.plain (OpenSpec.upto catalogInForceSpec)) catalogInForceUptoCard

/-- THE SECOND FORM's CARD OF 'sealwrightlaw34.CatalogOrder'. -/
def catalogOrderUptoCard : Claim7 := { stood := { row := catalogOrderUptoRow, standIns := [], harness := (true, "cc5d9205239b086572da72c95cdbe0600b31a943c60a526cf27e71584c2e116d"), looks := false }, kinds := [], alts := [], laidByText := true, laidKinds := [.data], laidTests := true, laidLooks := .later }
def CatalogOrderUptoCardSaid : Prop := Claim7.holds Tryz.pinned (.plain (OpenSpec.upto catalogOrderSpec)) catalogOrderUptoCard

/-- THE SECOND FORM's CARD OF 'sealwrightlaw34.CatalogMonotone'. -/
def catalogMonotoneUptoCard : Claim7 := { stood := { row := catalogMonotoneUptoRow, standIns := [], harness := (true, "cc5d9205239b086572da72c95cdbe0600b31a943c60a526cf27e71584c2e116d"), looks := false }, kinds := [], alts := [], laidByText := true, laidKinds := [.data], laidTests := true, laidLooks := .later }
def CatalogMonotoneUptoCardSaid : Prop := Claim7.holds Tryz.pinned (.plain (OpenSpec.upto catalogMonotoneSpec)) catalogMonotoneUptoCard
end Rows
end Go.Proofs.YtbfnljmmepcbfaaGreatDoor
