import Derived.Test.YtbomcadjkcmcgaaOpen
import Derived.Test.YtbomcadjkcmcgaaZc4
namespace Go.Proofs.Ytbomcadjkcmcgaa.Print
open Go.RowKit
/-- The one pure statement of laws_FnExactHouseStock. -/
def laws_FnExactHouseStock.Pure : Prop := ∀ (a0_0 : Int) (a0_1 : Bool) (a0_2 : Int) (l0_3 : List (S75)) (a0_4 : Int) (a1 : Bool), ok3 a0_0 → ok4 a0_1 → ok3 a0_2 → ok22 l0_3 → ok3 a0_4 → ok4 a1 → ∃ k, laws_FnExactHouseStock.f k a0_0 a0_1 a0_2 l0_3 a0_4 a1 = some true
end Go.Proofs.Ytbomcadjkcmcgaa.Print
