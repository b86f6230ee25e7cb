import Derived.Test.YtkbjgmfghhgodaaOpen
import Derived.Test.YtkbjgmfghhgodaaPrint32
namespace Go.Proofs.Ytkbjgmfghhgodaa.Print
open Go.RowKit
/-- The one pure statement of laws_FnExactStockFree. -/
def laws_FnExactStockFree.Pure : Prop := ∀ (a0_0 : Int) (l0_1 : List (S117)), ok3 a0_0 → ok58 l0_1 → ∃ k, laws_FnExactStockFree.f k a0_0 l0_1 = some true
end Go.Proofs.Ytkbjgmfghhgodaa.Print
