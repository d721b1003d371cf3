/-
  DERIVED. GIVEN WITH THE SEED: THE CARDS: each row of YtieipfegkfhllaaGreatDoorRows.lean that lists a variable, with what it lists TIED to the program's text (the seventh form; the later family's looks); each row that meets fmt, with fmt's text TOLD by the authors' own Lean function (tested against real Go, not proved from fmt's source: count such statements apart). THE CARD IS WHAT COUNTS. Prove the row's statement (the work); the ties are given (YtieipfegkfhllaaGreatDoorTie.lean); close each card by the builder's one call (the guide's Derived/Test/ToyasCard.lean, 'card_holds'). Laid BY PROGRAM, IN A SANDBOX (cutbox-door.mjs). By AI agents, Wed Nov 11 2026. No macro, syntax, notation, axiom, sorry.
-/
import Derived.Test.YtieipfegkfhllaaGreatDoorRows
import GoSem.ClaimSeven
namespace Go.Proofs.YtieipfegkfhllaaGreatDoor
namespace Rows

/-- THE TIED CARD OF 'trunnellaw02.SolidOperations'. -/
def solidOperationsCard : Claim7 := { stood := { row := solidOperationsRow, standIns := [], harness := (true, "db1e2735c44ec386801dce33107ec004816e47b739923273be617724547230d8"), looks := true }, kinds := [], alts := [], laidByText := true, laidKinds := [.data, .data, .data, .sentinel, .sentinel], laidTests := true, laidLooks := .later }
def SolidOperationsCardSaid : Prop := Claim7.holds Tryz.pinned (.plain (OpenSpec.ofChange solidOperationsSpec)) solidOperationsCard

/-- THE TIED CARD OF 'trunnellaw02.SolidCuts'. -/
def solidCutsCard : Claim7 := { stood := { row := solidCutsRow, standIns := [], harness := (true, "db1e2735c44ec386801dce33107ec004816e47b739923273be617724547230d8"), looks := true }, kinds := [], alts := [], laidByText := true, laidKinds := [.data, .data, .data, .sentinel, .sentinel], laidTests := true, laidLooks := .later }
def SolidCutsCardSaid : Prop := Claim7.holds Tryz.pinned (.plain (OpenSpec.ofChange solidCutsSpec)) solidCutsCard

/-- THE SECOND FORM's CARD OF 'trunnellaw02.SolidOperations'. -/
def solidOperationsUptoCard : Claim7 := { stood := { row := solidOperationsUptoRow, standIns := [], harness := (true, "db1e2735c44ec386801dce33107ec004816e47b739923273be617724547230d8"), looks := true }, kinds := [], alts := [], laidByText := true, laidKinds := [.data, .data, .data, .sentinel, .sentinel], laidTests := true, laidLooks := .later }
def SolidOperationsUptoCardSaid : Prop := Claim7.holds Tryz.pinned (.plain (OpenSpec.upto solidOperationsSpec)) solidOperationsUptoCard

/-- THE SECOND FORM's CARD OF 'trunnellaw02.SolidCuts'. -/
def solidCutsUptoCard : Claim7 := { stood := { row := solidCutsUptoRow, standIns := [], harness := (true, "db1e2735c44ec386801dce33107ec004816e47b739923273be617724547230d8"), looks := true }, kinds := [], alts := [], laidByText := true, laidKinds := [.data, .data, .data, .sentinel, .sentinel], laidTests := true, laidLooks := .later }
def SolidCutsUptoCardSaid : Prop := Claim7.holds Tryz.pinned (.plain (OpenSpec.upto solidCutsSpec)) solidCutsUptoCard
end Rows
end Go.Proofs.YtieipfegkfhllaaGreatDoor
