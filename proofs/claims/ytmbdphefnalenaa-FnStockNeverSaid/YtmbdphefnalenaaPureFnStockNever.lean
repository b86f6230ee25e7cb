/- No more is had than there is, whatever comes: of every code the law is true. Proved: the law's one pure statement. No condition. -/
import Derived.Test.YtmbdphefnalenaaPureDrawMay
import Derived.Test.YtmbdphefnalenaaPureLnStock
import Derived.Test.YtmbdphefnalenaaPureStockAfter
import Derived.Test.YtmbdphefnalenaaZm0
namespace Go.Proofs.Ytmbdphefnalenaa.Pure
open Go.RowKit Go.Proofs.Ytmbdphefnalenaa.Print Go.Proofs.YtmbdphefnalenaaW.PrintWords Go.Proofs.YtmbdphefnalenaaW.PrintLast

theorem drawStockDo_ex (k : Nat) (l : List Int) (h : ∀ x ∈ l, (Lit.int .u8 x).wf = true) (hk : 150 ≤ k) : Ex (spec_DrawStockDo.f k l) MayDrawn := by
  unfold spec_DrawStockDo.f
  exact Ex.bind (drawStockMay_ex k l h hk) (fun r hr => Ex.ret hr)
theorem FnStockNever : laws_FnStockNever.Pure := by
  intro l0 _ _ h0
  refine ⟨200, Ex.some_ ?_⟩
  unfold laws_FnStockNever.f
  refine Ex.ite (fun _ => Ex.ret rfl) (fun _ => Ex.bind (drawStockDo_ex 200 l0 h0 (by omega)) (fun r hr => ?_))
  obtain ⟨a, l, c, t, m⟩ := r
  obtain ⟨hl, hm⟩ := hr
  dsimp only at hl hm
  dsimp only
  rw [stockDo_spec a l c t m (by omega) (by omega) 200 (by omega), stockDo_impl a l c t m 200 (by omega)]
  simp only [Option.bind_some, bne_self_eq_false]
  rw [if_neg (by simp)]
  by_cases h : stockMayB a l c t m = true
  · have hs := do_mayB h
    have hlen : (doV l c t m).length = 6 := (stock_parts hs).2.1
    rw [stockDoV_yes h]
    dsimp only
    rw [lnStock_refl a _ (by omega) 200 (by omega)]
    simp only [Option.bind_some, if_true, laws_FnStockNever.j0, Bool.not_true]
    unfold impl_StockFree.f
    rw [if_neg (by simp), stockOk_impl a _ 199 (by omega), hs, free_impl _ a (by omega) 199 (by omega)]
    simp only [Option.bind_some, if_true]
    have := (stock_parts hs).2.2.2
    rw [if_pos (by omega)]
    exact ⟨true, by simp, rfl⟩
  · rw [stockDoV_no (by simpa using h)]
    dsimp only
    rw [lnStock_refl 0 [] (by simp) 200 (by simp)]
    simp only [Option.bind_some, if_true, laws_FnStockNever.j0, Bool.not_false]
    rw [if_pos (by rfl), lnStock_refl 0 [] (by simp) 199 (by simp)]
    exact ⟨true, rfl, rfl⟩

end Go.Proofs.Ytmbdphefnalenaa.Pure
