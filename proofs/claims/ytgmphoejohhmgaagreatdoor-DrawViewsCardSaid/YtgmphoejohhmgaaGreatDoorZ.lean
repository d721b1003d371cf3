/-
  DrawViews: what the given card says of it holds.
  No condition beyond those of the card.
-/
import Derived.Test.YtgmphoejohhmgaaGreatDoorJa
import Derived.Test.YtgmphoejohhmgaaGreatDoorLb
import Derived.Test.YtgmphoejohhmgaaGreatDoorWl
namespace Go.Proofs.YtgmphoejohhmgaaGreatDoor
theorem drawViews_card:Rows.DrawViewsCardSaid:=Trn.Join.Ww (fun _ _ _ hm=>Trn.Ha (D:=Trn.DR.lax) hm) Trn.OH
end Go.Proofs.YtgmphoejohhmgaaGreatDoor
