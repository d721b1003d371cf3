/-
  DERIVED. GIVEN WITH THE SEED: THE CARDS: each row of YtmjkpiakobnkgaaGreatDoorRows.lean that lists a variable, with what it lists TIED to the program's text (the seventh form; the later family's looks); each row that meets fmt, with fmt's text TOLD by the authors' own Lean function (tested against real Go, not proved from fmt's source: count such statements apart). THE CARD IS WHAT COUNTS. Prove the row's statement (the work); the ties are given (YtmjkpiakobnkgaaGreatDoorTie.lean); close each card by the builder's one call (the guide's Derived/Test/ToyasCard.lean, 'card_holds'). Laid BY PROGRAM, IN A SANDBOX (cutbox-door.mjs). By AI agents, Wed Nov 11 2026. No macro, syntax, notation, axiom, sorry.
-/
import Derived.Test.YtmjkpiakobnkgaaGreatDoorRows
import GoSem.ClaimSeven
namespace Go.Proofs.YtmjkpiakobnkgaaGreatDoor
namespace Rows

/-- THE TIED CARD OF 'trunnellaw02.SolidMeasures'. -/
def solidMeasuresCard : Claim7 := { stood := { row := solidMeasuresRow, standIns := [], harness := (true, "95c4940e31584a041e05105d3722094a9c06c80b5e1c884fb12e62def86147ad"), looks := true }, kinds := [], alts := [], laidByText := true, laidKinds := [.data, .data, .data, .sentinel, .sentinel], laidTests := true, laidLooks := .later }
def SolidMeasuresCardSaid : Prop := Claim7.holds Tryz.pinned (.plain (OpenSpec.ofChange solidMeasuresSpec)) solidMeasuresCard

/-- THE TIED CARD OF 'trunnellaw02.SolidPlaces'. -/
def solidPlacesCard : Claim7 := { stood := { row := solidPlacesRow, standIns := [], harness := (true, "95c4940e31584a041e05105d3722094a9c06c80b5e1c884fb12e62def86147ad"), looks := true }, kinds := [], alts := [], laidByText := true, laidKinds := [.data, .data, .data, .sentinel, .sentinel], laidTests := true, laidLooks := .later }
def SolidPlacesCardSaid : Prop := Claim7.holds Tryz.pinned (.plain (OpenSpec.ofChange solidPlacesSpec)) solidPlacesCard

/-- THE SECOND FORM's CARD OF 'trunnellaw02.SolidMeasures'. -/
def solidMeasuresUptoCard : Claim7 := { stood := { row := solidMeasuresUptoRow, standIns := [], harness := (true, "95c4940e31584a041e05105d3722094a9c06c80b5e1c884fb12e62def86147ad"), looks := true }, kinds := [], alts := [], laidByText := true, laidKinds := [.data, .data, .data, .sentinel, .sentinel], laidTests := true, laidLooks := .later }
def SolidMeasuresUptoCardSaid : Prop := Claim7.holds Tryz.pinned (.plain (OpenSpec.upto solidMeasuresSpec)) solidMeasuresUptoCard

/-- THE SECOND FORM's CARD OF 'trunnellaw02.SolidPlaces'. -/
def solidPlacesUptoCard : Claim7 := { stood := { row := solidPlacesUptoRow, standIns := [], harness := (true, "95c4940e31584a041e05105d3722094a9c06c80b5e1c884fb12e62def86147ad"), looks := true }, kinds := [], alts := [], laidByText := true, laidKinds := [.data, .data, .data, .sentinel, .sentinel], laidTests := true, laidLooks := .later }
def SolidPlacesUptoCardSaid : Prop := Claim7.holds Tryz.pinned (.plain (OpenSpec.upto solidPlacesSpec)) solidPlacesUptoCard
end Rows
end Go.Proofs.YtmjkpiakobnkgaaGreatDoor
