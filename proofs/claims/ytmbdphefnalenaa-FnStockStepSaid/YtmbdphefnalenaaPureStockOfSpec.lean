/- The reference's StockOf is the same. -/
import Derived.Test.YtmbdphefnalenaaPureStockOf
import Derived.Test.YtmbdphefnalenaaZa10
namespace Go.Proofs.Ytmbdphefnalenaa.Pure
open Go.RowKit Go.Proofs.Ytmbdphefnalenaa.Print Go.Proofs.YtmbdphefnalenaaW.PrintWords Go.Proofs.YtmbdphefnalenaaW.PrintLast

theorem stockOf_spec (a : Int) (rs : List S32) (hl : rs.length ≤ 1048576) (M : Nat) (hM : ∀ x ∈ rs, x.f2.length ≤ M) (hM2 : M ≤ 1048576) (k : Nat) (hk : rs.length + M + 10 < k) : spec_StockOf.f k a rs = some (stockOfV a rs) := by
  unfold spec_StockOf.f
  rw [l2Of_eq a rs hl M hM hM2 k hk]
  rfl

end Go.Proofs.Ytmbdphefnalenaa.Pure
