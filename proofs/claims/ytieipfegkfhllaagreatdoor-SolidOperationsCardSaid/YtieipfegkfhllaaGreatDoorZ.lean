/-
  SolidOperations: what the given card says of it holds.
  No condition beyond those of the card.
-/
import Derived.Test.YtieipfegkfhllaaGreatDoorJa
import Derived.Test.YtieipfegkfhllaaGreatDoorLd
import Derived.Test.YtieipfegkfhllaaGreatDoorWf
namespace Go.Proofs.YtieipfegkfhllaaGreatDoor
theorem solidOperations_card:Rows.SolidOperationsCardSaid:=Trn.ad0.ahv (λ_ _ _ hm=>Trn.adF (D:=Trn.DR.lax) hm) Trn.adK
end Go.Proofs.YtieipfegkfhllaaGreatDoor
