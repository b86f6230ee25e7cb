import Derived.Test.YtjccnaklodbbfaaOpen
import Derived.Test.YtjccnaklodbbfaaZu4
namespace Go.Proofs.Ytjccnaklodbbfaa.Print
open Go.RowKit
/-- The one pure statement of laws_FnExactTripsMay. -/
def laws_FnExactTripsMay.Pure : Prop := ∀ (l0 : List (S113)) (a1_0 : Int) (a1_1 : Int) (l1_2 : List Int), ok74 l0 → ok3 a1_0 → ok3 a1_1 → ok55 l1_2 → ∃ k, laws_FnExactTripsMay.f k l0 a1_0 a1_1 l1_2 = some true
end Go.Proofs.Ytjccnaklodbbfaa.Print
