import Derived.Test.YtjccnaklodbbfaaOpen
import Derived.Test.YtjccnaklodbbfaaZr2
namespace Go.Proofs.Ytjccnaklodbbfaa.Print
open Go.RowKit
/-- The one pure statement of laws_FnExactStockMay. -/
def laws_FnExactStockMay.Pure : Prop := ∀ (a0_0 : Int) (l0_1 : List (S131)) (a1_0 : Int) (a1_1 : Int) (l1_2 : List Int), ok3 a0_0 → ok52 l0_1 → ok3 a1_0 → ok3 a1_1 → ok55 l1_2 → ∃ k, laws_FnExactStockMay.f k a0_0 l0_1 a1_0 a1_1 l1_2 = some true
end Go.Proofs.Ytjccnaklodbbfaa.Print
