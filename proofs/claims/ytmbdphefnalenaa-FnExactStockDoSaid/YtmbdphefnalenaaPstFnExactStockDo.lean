import Derived.Test.YtmbdphefnalenaaOpen
import Derived.Test.YtmbdphefnalenaaZv1
namespace Go.Proofs.Ytmbdphefnalenaa.Print
open Go.RowKit
/-- The one pure statement of laws_FnExactStockDo. -/
def laws_FnExactStockDo.Pure : Prop := ∀ (a0_0 : Int) (l0_1 : List (S116)) (a1_0 : Int) (a1_1 : Int) (l1_2 : List Int), ok3 a0_0 → ok51 l0_1 → ok3 a1_0 → ok3 a1_1 → ok30 l1_2 → ∃ k, laws_FnExactStockDo.f k a0_0 l0_1 a1_0 a1_1 l1_2 = some true
end Go.Proofs.Ytmbdphefnalenaa.Print
