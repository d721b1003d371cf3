/-
  DERIVED. GIVEN WITH THE SEED: THE CARDS: each row of YtgmphoejohhmgaaGreatDoorRows.lean that lists a variable, with what it lists TIED to the program's text (the seventh form; the later family's looks); each row that meets fmt, with fmt's text TOLD by the authors' own Lean function (tested against real Go, not proved from fmt's source: count such statements apart). THE CARD IS WHAT COUNTS. Prove the row's statement (the work); the ties are given (YtgmphoejohhmgaaGreatDoorTie.lean); close each card by the builder's one call (the guide's Derived/Test/ToyasCard.lean, 'card_holds'). Laid BY PROGRAM, IN A SANDBOX (cutbox-door.mjs). By AI agents, Wed Nov 11 2026. No macro, syntax, notation, axiom, sorry.
-/
import Derived.Test.YtgmphoejohhmgaaGreatDoorRows
import GoSem.ClaimSeven
namespace Go.Proofs.YtgmphoejohhmgaaGreatDoor
namespace Rows

/-- THE TIED CARD OF 'trunnellaw09.DrawViews'. -/
def drawViewsCard : Claim7 := { stood := { row := drawViewsRow, standIns := [], harness := (true, "fd1c5f0863dfb96a3ae22376f747db916690874ec5999bfa893e5a96c9a9b077"), looks := true }, kinds := [], alts := [], laidByText := true, laidKinds := [.data, .data, .data, .sentinel, .sentinel], laidTests := true, laidLooks := .later }
def DrawViewsCardSaid : Prop := Claim7.holds Tryz.pinned (.plain (OpenSpec.ofChange drawViewsSpec)) drawViewsCard

/-- THE SECOND FORM's CARD OF 'trunnellaw09.DrawViews'. -/
def drawViewsUptoCard : Claim7 := { stood := { row := drawViewsUptoRow, standIns := [], harness := (true, "fd1c5f0863dfb96a3ae22376f747db916690874ec5999bfa893e5a96c9a9b077"), looks := true }, kinds := [], alts := [], laidByText := true, laidKinds := [.data, .data, .data, .sentinel, .sentinel], laidTests := true, laidLooks := .later }
def DrawViewsUptoCardSaid : Prop := Claim7.holds Tryz.pinned (.plain (OpenSpec.upto drawViewsSpec)) drawViewsUptoCard
end Rows
end Go.Proofs.YtgmphoejohhmgaaGreatDoor
