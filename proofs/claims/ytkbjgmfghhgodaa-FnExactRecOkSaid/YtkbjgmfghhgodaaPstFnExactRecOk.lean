import Derived.Test.YtkbjgmfghhgodaaOpen
import Derived.Test.YtkbjgmfghhgodaaPrint15
namespace Go.Proofs.Ytkbjgmfghhgodaa.Print
open Go.RowKit
/-- The one pure statement of laws_FnExactRecOk. -/
def laws_FnExactRecOk.Pure : Prop := ∀ (a0_0 : Int) (a0_1 : Int) (l0_2 : List Int), ok3 a0_0 → ok3 a0_1 → ok40 l0_2 → ∃ k, laws_FnExactRecOk.f k a0_0 a0_1 l0_2 = some true
end Go.Proofs.Ytkbjgmfghhgodaa.Print
