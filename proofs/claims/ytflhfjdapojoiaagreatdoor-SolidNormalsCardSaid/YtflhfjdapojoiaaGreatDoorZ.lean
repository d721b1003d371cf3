/-
  SolidNormals: what the given card says of it holds.
  No condition beyond those of the card.
-/
import Derived.Test.YtflhfjdapojoiaaGreatDoorJa
import Derived.Test.YtflhfjdapojoiaaGreatDoorLd
import Derived.Test.YtflhfjdapojoiaaGreatDoorWi
namespace Go.Proofs.YtflhfjdapojoiaaGreatDoor
theorem solidNormals_card:Rows.SolidNormalsCardSaid:=Trn.av9.WW (fun _ _ hm=>Trn.Du (D:=Trn.DR.lax) hm) Trn.II
end Go.Proofs.YtflhfjdapojoiaaGreatDoor
