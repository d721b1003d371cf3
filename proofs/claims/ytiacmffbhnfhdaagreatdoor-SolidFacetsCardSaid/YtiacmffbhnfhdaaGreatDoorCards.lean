/-
  DERIVED. GIVEN WITH THE SEED: THE CARDS: each row of YtiacmffbhnfhdaaGreatDoorRows.lean that lists a variable, with what it lists TIED to the program's text (the seventh form; the later family's looks); each row that meets fmt, with fmt's text TOLD by the authors' own Lean function (tested against real Go, not proved from fmt's source: count such statements apart). THE CARD IS WHAT COUNTS. Prove the row's statement (the work); the ties are given (YtiacmffbhnfhdaaGreatDoorTie.lean); close each card by the builder's one call (the guide's Derived/Test/ToyasCard.lean, 'card_holds'). Laid BY PROGRAM, IN A SANDBOX (cutbox-door.mjs). By AI agents, Wed Nov 11 2026. No macro, syntax, notation, axiom, sorry.
-/
import Derived.Test.YtiacmffbhnfhdaaGreatDoorRows
import GoSem.ClaimSeven
namespace Go.Proofs.YtiacmffbhnfhdaaGreatDoor
namespace Rows

/-- THE TIED CARD OF 'trunnellaw02.SolidOperations'. -/
def solidOperationsCard : Claim7 := { stood := { row := solidOperationsRow, standIns := [], harness := (true, "9aae2586a4a499811c0e3e7ec55a51b3112883d6bff4d4c88831d82cb7f94a61"), looks := true }, kinds := [], alts := [], laidByText := true, laidKinds := [.data, .data, .data, .sentinel, .sentinel], laidTests := true, laidLooks := .later }
def SolidOperationsCardSaid : Prop := Claim7.holds Tryz.pinned (.plain (OpenSpec.ofChange solidOperationsSpec)) solidOperationsCard

/-- THE TIED CARD OF 'trunnellaw02.SolidCuts'. -/
def solidCutsCard : Claim7 := { stood := { row := solidCutsRow, standIns := [], harness := (true, "9aae2586a4a499811c0e3e7ec55a51b3112883d6bff4d4c88831d82cb7f94a61"), looks := true }, kinds := [], alts := [], laidByText := true, laidKinds := [.data, .data, .data, .sentinel, .sentinel], laidTests := true, laidLooks := .later }
def SolidCutsCardSaid : Prop := Claim7.holds Tryz.pinned (.plain (OpenSpec.ofChange solidCutsSpec)) solidCutsCard

/-- THE TIED CARD OF 'trunnellaw02.SolidFacets'. -/
def solidFacetsCard : Claim7 := { stood := { row := solidFacetsRow, standIns := [], harness := (true, "9aae2586a4a499811c0e3e7ec55a51b3112883d6bff4d4c88831d82cb7f94a61"), looks := true }, kinds := [], alts := [], laidByText := true, laidKinds := [.data, .data, .data, .sentinel, .sentinel], laidTests := true, laidLooks := .later }
def SolidFacetsCardSaid : Prop := Claim7.holds Tryz.pinned (.plain (OpenSpec.ofChange solidFacetsSpec)) solidFacetsCard

/-- THE SECOND FORM's CARD OF 'trunnellaw02.SolidOperations'. -/
def solidOperationsUptoCard : Claim7 := { stood := { row := solidOperationsUptoRow, standIns := [], harness := (true, "9aae2586a4a499811c0e3e7ec55a51b3112883d6bff4d4c88831d82cb7f94a61"), looks := true }, kinds := [], alts := [], laidByText := true, laidKinds := [.data, .data, .data, .sentinel, .sentinel], laidTests := true, laidLooks := .later }
def SolidOperationsUptoCardSaid : Prop := Claim7.holds Tryz.pinned (.plain (OpenSpec.upto solidOperationsSpec)) solidOperationsUptoCard

/-- THE SECOND FORM's CARD OF 'trunnellaw02.SolidCuts'. -/
def solidCutsUptoCard : Claim7 := { stood := { row := solidCutsUptoRow, standIns := [], harness := (true, "9aae2586a4a499811c0e3e7ec55a51b3112883d6bff4d4c88831d82cb7f94a61"), looks := true }, kinds := [], alts := [], laidByText := true, laidKinds := [.data, .data, .data, .sentinel, .sentinel], laidTests := true, laidLooks := .later }
def SolidCutsUptoCardSaid : Prop := Claim7.holds Tryz.pinned (.plain (OpenSpec.upto solidCutsSpec)) solidCutsUptoCard

/-- THE SECOND FORM's CARD OF 'trunnellaw02.SolidFacets'. -/
def solidFacetsUptoCard : Claim7 := { stood := { row := solidFacetsUptoRow, standIns := [], harness := (true, "9aae2586a4a499811c0e3e7ec55a51b3112883d6bff4d4c88831d82cb7f94a61"), looks := true }, kinds := [], alts := [], laidByText := true, laidKinds := [.data, .data, .data, .sentinel, .sentinel], laidTests := true, laidLooks := .later }
def SolidFacetsUptoCardSaid : Prop := Claim7.holds Tryz.pinned (.plain (OpenSpec.upto solidFacetsSpec)) solidFacetsUptoCard
end Rows
end Go.Proofs.YtiacmffbhnfhdaaGreatDoor
