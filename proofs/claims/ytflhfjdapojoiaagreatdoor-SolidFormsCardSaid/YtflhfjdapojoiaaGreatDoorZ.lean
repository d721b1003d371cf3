/-
  SolidForms: what the given card says of it holds.
  No condition beyond those of the card.
-/
import Derived.Test.YtflhfjdapojoiaaGreatDoorJa
import Derived.Test.YtflhfjdapojoiaaGreatDoorLd
import Derived.Test.YtflhfjdapojoiaaGreatDoorWe
namespace Go.Proofs.YtflhfjdapojoiaaGreatDoor
theorem solidForms_card:Rows.SolidFormsCardSaid:=Trn.ab9.ag8 (λ_ _ hm=>Trn.abd (D:=Trn.DR.lax) hm) Trn.acO
end Go.Proofs.YtflhfjdapojoiaaGreatDoor
