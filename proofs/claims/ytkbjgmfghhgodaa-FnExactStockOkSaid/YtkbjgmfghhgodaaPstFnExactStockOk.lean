import Derived.Test.YtkbjgmfghhgodaaOpen
import Derived.Test.YtkbjgmfghhgodaaPrint30
namespace Go.Proofs.Ytkbjgmfghhgodaa.Print
open Go.RowKit
/-- The one pure statement of laws_FnExactStockOk. -/
def laws_FnExactStockOk.Pure : Prop := ∀ (a0_0 : Int) (l0_1 : List (S117)), ok3 a0_0 → ok58 l0_1 → ∃ k, laws_FnExactStockOk.f k a0_0 l0_1 = some true
end Go.Proofs.Ytkbjgmfghhgodaa.Print
