/-
  DrawMoves: what the given card says of it holds.
  No condition beyond those of the card.
-/
import Derived.Test.YtokjddaclakenaaGreatDoorJa
import Derived.Test.YtokjddaclakenaaGreatDoorLb
import Derived.Test.YtokjddaclakenaaGreatDoorWk
namespace Go.Proofs.YtokjddaclakenaaGreatDoor
theorem drawMoves_card:Rows.DrawMovesCardSaid:=Trn.Join.Xy (fun _ _ _ _ hm=>Trn.Il (D:=Trn.DR.lax) hm) Trn.PF
end Go.Proofs.YtokjddaclakenaaGreatDoor
