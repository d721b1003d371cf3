/-
  SolidPlaces: what the given card says of it holds.
  No condition beyond those of the card.
-/
import Derived.Test.YtmjkpiakobnkgaaGreatDoorJa
import Derived.Test.YtmjkpiakobnkgaaGreatDoorLb
import Derived.Test.YtmjkpiakobnkgaaGreatDoorWc
namespace Go.Proofs.YtmjkpiakobnkgaaGreatDoor
theorem solidPlaces_card:Rows.SolidPlacesCardSaid:=Trn.abc.agr (λ_ _ _ _ a=>Trn.acA (D:=Trn.DR.lax) a) Trn.ack
end Go.Proofs.YtmjkpiakobnkgaaGreatDoor
