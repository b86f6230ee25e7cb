/- What came does not come again: of every code the law is true. Proved: the law's one pure statement. No condition. -/
import Derived.Test.YtmbdphefnalenaaPureDrawMay
import Derived.Test.YtmbdphefnalenaaPureLnStock
import Derived.Test.YtmbdphefnalenaaPureStockAfter
import Derived.Test.YtmbdphefnalenaaZl0
namespace Go.Proofs.Ytmbdphefnalenaa.Pure
open Go.RowKit Go.Proofs.Ytmbdphefnalenaa.Print Go.Proofs.YtmbdphefnalenaaW.PrintWords Go.Proofs.YtmbdphefnalenaaW.PrintLast

theorem drawStockDo_ex (k : Nat) (l : List Int) (h : ∀ x ∈ l, (Lit.int .u8 x).wf = true) (hk : 150 ≤ k) : Ex (spec_DrawStockDo.f k l) MayDrawn := by
  unfold spec_DrawStockDo.f
  exact Ex.bind (drawStockMay_ex k l h hk) (fun r hr => Ex.ret hr)
theorem FnStockTwice : laws_FnStockTwice.Pure := by
  intro l0 _ _ h0
  refine ⟨200, Ex.some_ ?_⟩
  unfold laws_FnStockTwice.f
  refine Ex.ite (fun _ => Ex.ret rfl) (fun _ => Ex.bind (drawStockDo_ex 200 l0 h0 (by omega)) (fun r hr => ?_))
  obtain ⟨a, l, c, t, m⟩ := r
  obtain ⟨hl, hm⟩ := hr
  dsimp only at hl hm
  dsimp only
  rw [stockDo_spec a l c t m (by omega) (by omega) 200 (by omega), stockDo_impl a l c t m 200 (by omega)]
  simp only [Option.bind_some, bne_self_eq_false]
  rw [if_neg (by simp)]
  by_cases h : stockMayB a l c t m = true
  · have hs := do_mayB h
    obtain ⟨hs0, hr, hv⟩ := may_parts h
    obtain ⟨g1, g2, g3, g4, g5⟩ := rec_parts hr
    have hc := may_kind hv
    have hlen : (doV l c t m).length = 6 := (stock_parts hs).2.1
    have hat := at_do (c := c) (m := m) (stock_parts hs0).2.1 g3 g4
    have hst := newH_state l c t m hc
    have e1 : stockMayB a (doV l c t m) c t m = false := by
      have : mayV a (doV l c t m) c t m = false := by
        unfold mayV
        rw [hat, hst]
        rcases hc with e | e | e <;> subst e <;> simp
      unfold stockMayB; rw [this]; simp
    have e2 : stockMayB a (doV l c t m) 1 t [1] = false := by
      have : mayV a (doV l c t m) 1 t [1] = false := by
        unfold mayV
        rw [hat, hst]
        rcases hc with e | e | e <;> subst e <;> simp
      unfold stockMayB; rw [this]; simp
    have e3 : stockMayB a (doV l c t m) 2 t [] = (c == 1) := by
      have : mayV a (doV l c t m) 2 t [] = (c == 1) := by
        unfold mayV
        rw [hat, hst]
        rcases hc with e | e | e <;> subst e <;> simp
      unfold stockMayB; rw [this, hs, rec_close g3 g4 2 (.inl rfl)]; simp
    rw [stockDoV_yes h]
    dsimp only
    rw [lnStock_refl a _ (by omega) 200 (by omega)]
    simp only [Option.bind_some, if_true, laws_FnStockTwice.j0, Bool.not_true]
    rw [if_neg (by simp), stockMay_impl _ _ _ _ _ 199 (by omega), stockMay_impl _ _ _ _ _ 199 (by omega), stockMay_impl _ _ _ _ _ 199 (by omega), e1, e2, e3]
    exact ⟨true, by simp, rfl⟩
  · rw [stockDoV_no (by simpa using h)]
    dsimp only
    rw [lnStock_refl 0 [] (by simp) 200 (by simp)]
    simp only [Option.bind_some, if_true, laws_FnStockTwice.j0, Bool.not_false]
    rw [if_pos (by rfl), lnStock_refl 0 [] (by simp) 199 (by simp)]
    exact ⟨true, rfl, rfl⟩

end Go.Proofs.Ytmbdphefnalenaa.Pure
