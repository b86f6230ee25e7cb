import Derived.Test.YtbcepmkifomifaaDoorOpen
import Derived.Test.YtbcepmkifomifaaDoorZq0
namespace Go.Proofs.YtbcepmkifomifaaDoor.Print
open Go.RowKit
/-- The one pure statement of laws_FnExactWordText. -/
def laws_FnExactWordText.Pure : Prop := ∀ (a0_0 : Int) (a0_1 : Int) (a0_2 : Int) (a0_3 : Int), ok3 a0_0 → ok3 a0_1 → ok3 a0_2 → ok3 a0_3 → ∃ k, laws_FnExactWordText.f k a0_0 a0_1 a0_2 a0_3 = some true
end Go.Proofs.YtbcepmkifomifaaDoor.Print
