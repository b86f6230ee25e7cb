import Derived.Test.YtbcepmkifomifaaDoorOpen
import Derived.Test.YtbcepmkifomifaaDoorZt1
namespace Go.Proofs.YtbcepmkifomifaaDoor.Print
open Go.RowKit
/-- The one pure statement of laws_FnExactRecText. -/
def laws_FnExactRecText.Pure : Prop := ∀ (a0_0 : Int) (a0_1 : Int) (l0_2 : List Int), ok3 a0_0 → ok3 a0_1 → ok23 l0_2 → ∃ k, laws_FnExactRecText.f k a0_0 a0_1 l0_2 = some true
end Go.Proofs.YtbcepmkifomifaaDoor.Print
