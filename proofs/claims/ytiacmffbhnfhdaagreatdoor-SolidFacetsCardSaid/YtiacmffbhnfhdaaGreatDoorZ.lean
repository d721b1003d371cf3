/-
  SolidFacets: what the given card says of it holds.
  No condition beyond those of the card.
-/
import Derived.Test.YtiacmffbhnfhdaaGreatDoorJa
import Derived.Test.YtiacmffbhnfhdaaGreatDoorLc
import Derived.Test.YtiacmffbhnfhdaaGreatDoorWf
namespace Go.Proofs.YtiacmffbhnfhdaaGreatDoor
theorem solidFacets_card:Rows.SolidFacetsCardSaid:=Trn.ach.ahZ (λ_ _ hm=>Trn.ad9 (D:=Trn.DR.lax) hm) Trn.adh
end Go.Proofs.YtiacmffbhnfhdaaGreatDoor
