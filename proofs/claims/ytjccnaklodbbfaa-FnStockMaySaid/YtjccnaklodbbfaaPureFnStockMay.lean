/- What a stock may, told by its hold: of every code the law is true. Proved: the law's one pure statement. No condition. -/
import Derived.Test.YtjccnaklodbbfaaPureDrawMay
import Derived.Test.YtjccnaklodbbfaaZu1
namespace Go.Proofs.Ytjccnaklodbbfaa.Pure
open Go.RowKit Go.Proofs.Ytjccnaklodbbfaa.Print Go.Proofs.YtjccnaklodbbfaaW.PrintWords Go.Proofs.YtjccnaklodbbfaaW.PrintLast

theorem stockMay_j0 (k : Nat) (hk : 60 ≤ k) (x : Bool) (a : Int) (l : List S46) (c t : Int) (m : List Int) (hl : l.length ≤ 6) (hm : m.length ≤ 4) (hx : x = true ∨ (x = false ∧ stockB a l = true ∧ recB c t m = true)) : Ex (laws_FnStockMay.j0 k (stockMayB a l c t m) x a l c t m) (fun r => r = true) := by
  obtain ⟨k, rfl⟩ := ok_fuel (show 0 < k by omega)
  simp only [laws_FnStockMay.j0]
  rcases hx with hx | ⟨hx, hs, hr⟩
  · rw [if_pos hx, stockMay_spec a l c t m (by omega) (by omega) k (by omega)]
    exact ⟨true, by simp, rfl⟩
  · have hm2 := l2May_eq a l c t m (stock_parts hs).2.1 hr 7 (by omega)
    obtain ⟨g1, g2, g3, g4, g5⟩ := rec_parts hr
    have h6 := (stock_parts hs).2.1
    have e : stockMayB a l c t m = mayV a l c t m := by unfold stockMayB; rw [hs, hr]; simp
    rw [if_neg (by simp [hx]), e]
    unfold mayV atT
    unfold impl_StockFree.f
    rw [stockOk_impl a l k (by omega), hs, free_impl l a (by omega) k (by omega), w64 (by omega) (by omega), if_pos (by omega), if_pos (by omega)]
    by_cases e1 : c = 1
    · have := g5 e1
      rw [if_pos e1, if_pos e1]
      by_cases g : (rd_T46 l (t - 1)).f1 = 0
      · rw [if_pos g, if_pos (by omega)]
        exact ⟨true, by simp [g], rfl⟩
      · rw [if_neg g]
        exact ⟨true, by simp [g], rfl⟩
    · rw [if_neg e1, if_neg e1]
      by_cases e2 : c = 2
      · rw [if_pos e2, if_pos e2]
        exact ⟨true, by by_cases g : (rd_T46 l (t - 1)).f1 = 1 <;> simp [g], rfl⟩
      · rw [if_neg e2, if_neg e2]
        by_cases e3 : c = 3
        · rw [if_pos e3, if_pos e3]
          by_cases g : (rd_T46 l (t - 1)).f1 = 1
          · rw [if_pos g]; exact ⟨true, by simp [g], rfl⟩
          · rw [if_neg g]
            exact ⟨true, by by_cases g2 : (rd_T46 l (t - 1)).f1 = 0 <;> simp [g, g2], rfl⟩
        · rw [if_neg e3, if_neg e3]
          exact ⟨true, rfl, rfl⟩
theorem FnStockMay : laws_FnStockMay.Pure := by
  intro l0 _ _ h0
  refine ⟨200, Ex.some_ ?_⟩
  unfold laws_FnStockMay.f
  refine Ex.ite (fun _ => Ex.ret rfl) (fun _ => Ex.bind (drawStockMay_ex 200 l0 h0 (by omega)) (fun r hr => ?_))
  obtain ⟨a, l, c, t, m⟩ := r
  obtain ⟨hl, hm⟩ := hr
  dsimp only at hl hm
  dsimp only
  rw [stockMay_impl a l c t m 200 (by omega), stockMay_spec a l c t m (by omega) (by omega) 200 (by omega), stockOk_spec a l (by omega) 200 (by omega), recOk_spec c t m (by omega) 200 (by omega)]
  refine Ex.bindS (Ex.bindS (Ex.ite (fun h => by simp at h) (fun _ => Ex.bindS (Ex.ite (fun hs => Ex.bindS ?_) (fun _ => ?_)))))
  · by_cases hr : recB c t m = true
    · exact stockMay_j0 200 (by omega) _ a l c t m hl hm (.inr ⟨by simp [hr], hs, hr⟩)
    · exact stockMay_j0 200 (by omega) _ a l c t m hl hm (.inl (by simp [hr]))
  · exact stockMay_j0 200 (by omega) _ a l c t m hl hm (.inl rfl)

end Go.Proofs.Ytjccnaklodbbfaa.Pure
