/-
  SolidCuts: what the given card says of it holds.
  No condition beyond those of the card.
-/
import Derived.Test.YtieipfegkfhllaaGreatDoorJa
import Derived.Test.YtieipfegkfhllaaGreatDoorLd
import Derived.Test.YtieipfegkfhllaaGreatDoorWf
namespace Go.Proofs.YtieipfegkfhllaaGreatDoor
theorem solidCuts_card:Rows.SolidCutsCardSaid:=Trn.acm.ahn (λ_ _ _ _ hm=>Trn.adK (D:=Trn.DR.lax) hm) Trn.aeY
end Go.Proofs.YtieipfegkfhllaaGreatDoor
