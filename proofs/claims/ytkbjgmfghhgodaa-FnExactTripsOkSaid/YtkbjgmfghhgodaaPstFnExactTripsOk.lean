import Derived.Test.YtkbjgmfghhgodaaOpen
import Derived.Test.YtkbjgmfghhgodaaPrint25
namespace Go.Proofs.Ytkbjgmfghhgodaa.Print
open Go.RowKit
/-- The one pure statement of laws_FnExactTripsOk. -/
def laws_FnExactTripsOk.Pure : Prop := ∀ (l0 : List (S92)), ok51 l0 → ∃ k, laws_FnExactTripsOk.f k l0 = some true
end Go.Proofs.Ytkbjgmfghhgodaa.Print
