/-
  SolidMeasures: what the given card says of it holds.
  No condition beyond those of the card.
-/
import Derived.Test.YtmjkpiakobnkgaaGreatDoorJa
import Derived.Test.YtmjkpiakobnkgaaGreatDoorLb
import Derived.Test.YtmjkpiakobnkgaaGreatDoorWc
namespace Go.Proofs.YtmjkpiakobnkgaaGreatDoor
theorem solidMeasures_card:Rows.SolidMeasuresCardSaid:=Trn.adK.aiO (λ_ _ hm=>Trn.adf (D:=Trn.DR.lax) hm) Trn.adt
end Go.Proofs.YtmjkpiakobnkgaaGreatDoor
