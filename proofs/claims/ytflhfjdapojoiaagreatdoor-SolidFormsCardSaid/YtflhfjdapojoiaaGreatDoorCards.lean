/-
  DERIVED. GIVEN WITH THE SEED: THE CARDS: each row of YtflhfjdapojoiaaGreatDoorRows.lean that lists a variable, with what it lists TIED to the program's text (the seventh form; the later family's looks); each row that meets fmt, with fmt's text TOLD by the authors' own Lean function (tested against real Go, not proved from fmt's source: count such statements apart). THE CARD IS WHAT COUNTS. Prove the row's statement (the work); the ties are given (YtflhfjdapojoiaaGreatDoorTie.lean); close each card by the builder's one call (the guide's Derived/Test/ToyasCard.lean, 'card_holds'). Laid BY PROGRAM, IN A SANDBOX (cutbox-door.mjs). By AI agents, Wed Nov 11 2026. No macro, syntax, notation, axiom, sorry.
-/
import Derived.Test.YtflhfjdapojoiaaGreatDoorRows
import GoSem.ClaimSeven
namespace Go.Proofs.YtflhfjdapojoiaaGreatDoor
namespace Rows

/-- THE TIED CARD OF 'trunnellaw02.SolidNormals'. -/
def solidNormalsCard : Claim7 := { stood := { row := solidNormalsRow, standIns := [], harness := (true, "c71639e3307949dff9f5f7a12d169036210af04dcf2f0b7257f1a4291b40065c"), looks := true }, kinds := [], alts := [], laidByText := true, laidKinds := [.data, .data, .data, .sentinel, .sentinel], laidTests := true, laidLooks := .later }
def SolidNormalsCardSaid : Prop := Claim7.holds Tryz.pinned (.plain (OpenSpec.ofChange solidNormalsSpec)) solidNormalsCard

/-- THE TIED CARD OF 'trunnellaw02.SolidForms'. -/
def solidFormsCard : Claim7 := { stood := { row := solidFormsRow, standIns := [], harness := (true, "c71639e3307949dff9f5f7a12d169036210af04dcf2f0b7257f1a4291b40065c"), looks := true }, kinds := [], alts := [], laidByText := true, laidKinds := [.data, .data, .data, .sentinel, .sentinel], laidTests := true, laidLooks := .later }
def SolidFormsCardSaid : Prop := Claim7.holds Tryz.pinned (.plain (OpenSpec.ofChange solidFormsSpec)) solidFormsCard

/-- THE SECOND FORM's CARD OF 'trunnellaw02.SolidNormals'. -/
def solidNormalsUptoCard : Claim7 := { stood := { row := solidNormalsUptoRow, standIns := [], harness := (true, "c71639e3307949dff9f5f7a12d169036210af04dcf2f0b7257f1a4291b40065c"), looks := true }, kinds := [], alts := [], laidByText := true, laidKinds := [.data, .data, .data, .sentinel, .sentinel], laidTests := true, laidLooks := .later }
def SolidNormalsUptoCardSaid : Prop := Claim7.holds Tryz.pinned (.plain (OpenSpec.upto solidNormalsSpec)) solidNormalsUptoCard

/-- THE SECOND FORM's CARD OF 'trunnellaw02.SolidForms'. -/
def solidFormsUptoCard : Claim7 := { stood := { row := solidFormsUptoRow, standIns := [], harness := (true, "c71639e3307949dff9f5f7a12d169036210af04dcf2f0b7257f1a4291b40065c"), looks := true }, kinds := [], alts := [], laidByText := true, laidKinds := [.data, .data, .data, .sentinel, .sentinel], laidTests := true, laidLooks := .later }
def SolidFormsUptoCardSaid : Prop := Claim7.holds Tryz.pinned (.plain (OpenSpec.upto solidFormsSpec)) solidFormsUptoCard
end Rows
end Go.Proofs.YtflhfjdapojoiaaGreatDoor
