/-
  DERIVED. GIVEN WITH THE SEED: THE CARDS: each row of YtokjddaclakenaaGreatDoorRows.lean that lists a variable, with what it lists TIED to the program's text (the seventh form; the later family's looks); each row that meets fmt, with fmt's text TOLD by the authors' own Lean function (tested against real Go, not proved from fmt's source: count such statements apart). THE CARD IS WHAT COUNTS. Prove the row's statement (the work); the ties are given (YtokjddaclakenaaGreatDoorTie.lean); close each card by the builder's one call (the guide's Derived/Test/ToyasCard.lean, 'card_holds'). Laid BY PROGRAM, IN A SANDBOX (cutbox-door.mjs). By AI agents, Wed Nov 11 2026. No macro, syntax, notation, axiom, sorry.
-/
import Derived.Test.YtokjddaclakenaaGreatDoorRows
import GoSem.ClaimSeven
namespace Go.Proofs.YtokjddaclakenaaGreatDoor
namespace Rows

/-- THE TIED CARD OF 'trunnellaw09.DrawMoves'. -/
def drawMovesCard : Claim7 := { stood := { row := drawMovesRow, standIns := [], harness := (true, "30995ea889a7d55a7c4ca0a8d4e13150c74ac14458d28f88dba5f7cc8ef1936b"), looks := true }, kinds := [], alts := [], laidByText := true, laidKinds := [.data, .data, .data, .sentinel, .sentinel], laidTests := true, laidLooks := .later }
def DrawMovesCardSaid : Prop := Claim7.holds Tryz.pinned (.plain (OpenSpec.ofChange drawMovesSpec)) drawMovesCard

/-- THE TIED CARD OF 'trunnellaw09.DrawForms'. -/
def drawFormsCard : Claim7 := { stood := { row := drawFormsRow, standIns := [], harness := (true, "30995ea889a7d55a7c4ca0a8d4e13150c74ac14458d28f88dba5f7cc8ef1936b"), looks := true }, kinds := [], alts := [], laidByText := true, laidKinds := [.data, .data, .data, .data, .sentinel, .sentinel, .pinned], laidTests := true, laidLooks := .later }
def DrawFormsCardSaid : Prop := Claim7.holds Tryz.pinned (.plain (OpenSpec.ofChange drawFormsSpec)) drawFormsCard

/-- THE SECOND FORM's CARD OF 'trunnellaw09.DrawMoves'. -/
def drawMovesUptoCard : Claim7 := { stood := { row := drawMovesUptoRow, standIns := [], harness := (true, "30995ea889a7d55a7c4ca0a8d4e13150c74ac14458d28f88dba5f7cc8ef1936b"), looks := true }, kinds := [], alts := [], laidByText := true, laidKinds := [.data, .data, .data, .sentinel, .sentinel], laidTests := true, laidLooks := .later }
def DrawMovesUptoCardSaid : Prop := Claim7.holds Tryz.pinned (.plain (OpenSpec.upto drawMovesSpec)) drawMovesUptoCard

/-- THE SECOND FORM's CARD OF 'trunnellaw09.DrawForms'. -/
def drawFormsUptoCard : Claim7 := { stood := { row := drawFormsUptoRow, standIns := [], harness := (true, "30995ea889a7d55a7c4ca0a8d4e13150c74ac14458d28f88dba5f7cc8ef1936b"), looks := true }, kinds := [], alts := [], laidByText := true, laidKinds := [.data, .data, .data, .data, .sentinel, .sentinel, .pinned], laidTests := true, laidLooks := .later }
def DrawFormsUptoCardSaid : Prop := Claim7.holds Tryz.pinned (.plain (OpenSpec.upto drawFormsSpec)) drawFormsUptoCard
end Rows
end Go.Proofs.YtokjddaclakenaaGreatDoor
