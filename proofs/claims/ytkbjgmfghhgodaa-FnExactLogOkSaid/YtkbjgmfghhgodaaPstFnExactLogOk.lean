import Derived.Test.YtkbjgmfghhgodaaOpen
import Derived.Test.YtkbjgmfghhgodaaZx3
namespace Go.Proofs.Ytkbjgmfghhgodaa.Print
open Go.RowKit
/-- The one pure statement of laws_FnExactLogOk. -/
def laws_FnExactLogOk.Pure : Prop := ∀ (l0_0 : List (S42)) (a0_1 : Int), ok71 l0_0 → ok3 a0_1 → ∃ k, laws_FnExactLogOk.f k l0_0 a0_1 = some true
end Go.Proofs.Ytkbjgmfghhgodaa.Print
