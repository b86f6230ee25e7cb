/- The reference's StockMay and StockDo are the same. -/
import Derived.Test.YtmbdphefnalenaaPureStockSpec
import Derived.Test.YtmbdphefnalenaaPureStockDo
import Derived.Test.YtmbdphefnalenaaZa5
import Derived.Test.YtmbdphefnalenaaZa7
namespace Go.Proofs.Ytmbdphefnalenaa.Pure
open Go.RowKit Go.Proofs.Ytmbdphefnalenaa.Print Go.Proofs.YtmbdphefnalenaaW.PrintWords Go.Proofs.YtmbdphefnalenaaW.PrintLast

theorem stockMay_spec (a : Int) (l : List S49) (c t : Int) (m : List Int) (hl : l.length ≤ 1048576) (hm : m.length ≤ 1048576) (k : Nat) (hk : 2 * l.length + m.length + 8 ≤ k) : spec_StockMay.f k a l c t m = some (stockMayB a l c t m) := by
  unfold spec_StockMay.f stockMayB
  rw [stockOk_spec a l hl k (by omega), recOk_spec c t m (by omega) k (by omega)]
  simp only [Option.bind_some]
  by_cases hs : stockB a l = true
  · rw [if_pos hs, hs]
    by_cases hr : recB c t m = true
    · rw [if_pos hr, l2May_eq a l c t m (stock_parts hs).2.1 hr k (by omega), hr]
      simp
    · rw [if_neg hr]; simp [hr]
  · rw [if_neg hs]; simp [hs]
theorem stockDo_spec (a : Int) (l : List S49) (c t : Int) (m : List Int) (hl : l.length ≤ 1048576) (hm : m.length ≤ 1048576) (k : Nat) (hk : 2 * l.length + m.length + 8 ≤ k) : spec_StockDo.f k a l c t m = some (stockDoV a l c t m) := by
  unfold spec_StockDo.f stockDoV
  rw [stockMay_spec a l c t m hl hm k hk]
  simp only [Option.bind_some]
  by_cases h : stockMayB a l c t m = true
  · rw [if_pos h, if_pos h]
    unfold stockMayB at h
    simp only [Bool.and_eq_true] at h
    have h6 := (stock_parts h.1.1).2.1
    unfold spec_l2Copy.f
    simp only [Option.bind_some, List.length_nil, List.nil_append]
    rw [if_pos (by omega)]
    simp only [Option.bind_some]
    rw [l2Do_eq a l c t m h6 h.1.2 (may_kind h.2)]
    rfl
  · rw [if_neg h, if_neg h]

end Go.Proofs.Ytmbdphefnalenaa.Pure
