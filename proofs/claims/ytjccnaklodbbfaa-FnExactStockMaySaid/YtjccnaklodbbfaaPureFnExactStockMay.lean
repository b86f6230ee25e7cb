/- The program's StockMay returns what the reference's returns, for all arguments: the law's one pure statement. No condition. -/
import Derived.Test.YtjccnaklodbbfaaPureHolds
import Derived.Test.YtjccnaklodbbfaaPureInts
import Derived.Test.YtjccnaklodbbfaaPureStockDoSpec
import Derived.Test.YtjccnaklodbbfaaPstFnExactStockMay
namespace Go.Proofs.Ytjccnaklodbbfaa.Pure
open Go.RowKit Go.Proofs.Ytjccnaklodbbfaa.Print Go.Proofs.YtjccnaklodbbfaaW.PrintWords Go.Proofs.YtjccnaklodbbfaaW.PrintLast

theorem FnExactStockMay : laws_FnExactStockMay.Pure := by
  intro a l c t m _ hl _ _ hm
  refine ⟨8000000, Ex.some_ ?_⟩
  generalize hk : 8000000 = k
  unfold laws_FnExactStockMay.f laws_szRec.f laws_toRec.f laws_eqRec.f
  rw [szStock_eq a l _ (by omega) (by omega) hl.1]
  refine Ex.bindS (Ex.ite (fun _ => Ex.ret rfl) (fun h => ?_))
  have h1 : ¬ (1048576 : Int) < l.length := fun h2 => by rw [if_pos h2] at h; omega
  rw [if_neg h1, szIntS_eq m _ (by omega) (by omega) hm.1]
  by_cases h2 : (1048576 : Int) - l.length < m.length
  · rw [if_pos h2]; exact ⟨true, rfl, rfl⟩
  · rw [if_neg h2, Option.bind_some, if_neg (by omega), Option.bind_some, if_neg (by omega)]
    have hn : (l.map cvH).length ≤ 1048576 := by rw [List.length_map]; omega
    rw [toStock_eq a l (by omega) k (by omega), toIntS_eq m (by omega) k (by omega)]
    simp only [Option.bind_some]
    rw [stockMay_spec a _ c t m hn (by omega) k (by omega), stockMay_impl a _ c t m k (by omega), eqStock_refl a _ hn k (by omega), eqIntS_eq m m (by omega) k (by omega)]
    exact ⟨true, by simp, rfl⟩

end Go.Proofs.Ytjccnaklodbbfaa.Pure
