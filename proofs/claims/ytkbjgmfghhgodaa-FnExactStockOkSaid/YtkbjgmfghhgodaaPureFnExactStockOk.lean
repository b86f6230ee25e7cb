/- The program's StockOk returns what the reference's returns, for all arguments: the law's one pure statement. No condition. -/
import Derived.Test.YtkbjgmfghhgodaaPureHolds
import Derived.Test.YtkbjgmfghhgodaaPstFnExactStockOk
namespace Go.Proofs.Ytkbjgmfghhgodaa.Pure
open Go.RowKit Go.Proofs.Ytkbjgmfghhgodaa.Print Go.Proofs.YtkbjgmfghhgodaaW.PrintWords Go.Proofs.YtkbjgmfghhgodaaW.PrintLast

theorem FnExactStockOk : laws_FnExactStockOk.Pure := by
  intro a l _ hl
  refine ⟨4000000, ?_⟩
  generalize hk : 4000000 = k
  unfold laws_FnExactStockOk.f
  rw [szStock_eq a l _ (by omega) (by omega) hl.1, Option.bind_some]
  by_cases h : (1048576 : Int) < l.length
  · rw [if_pos h]; rfl
  · rw [if_neg h, if_neg (by omega)]
    have hm : (l.map cvH).length ≤ 1048576 := by rw [List.length_map]; omega
    rw [toStock_eq a l (by omega) k (by omega)]
    simp only [Option.bind_some]
    rw [stockOk_spec a _ hm k (by omega), stockOk_impl a _ k (by omega), eqStock_refl a _ hm k (by omega)]
    simp

end Go.Proofs.Ytkbjgmfghhgodaa.Pure
