import Derived.Test.YtmbdphefnalenaaOpen
import Derived.Test.YtmbdphefnalenaaZx2
namespace Go.Proofs.Ytmbdphefnalenaa.Print
open Go.RowKit
/-- The one pure statement of laws_FnExactStockOf. -/
def laws_FnExactStockOf.Pure : Prop := ∀ (a0 : Int) (l1 : List (S54)), ok3 a0 → ok63 l1 → ∃ k, laws_FnExactStockOf.f k a0 l1 = some true
end Go.Proofs.Ytmbdphefnalenaa.Print
