/- With more there is more free: of every code the law is true. Proved: the law's one pure statement. No condition. -/
import Derived.Test.YtmbdphefnalenaaPureDrawOf
import Derived.Test.YtmbdphefnalenaaPureLnStock
import Derived.Test.YtmbdphefnalenaaPureStockAfter
import Derived.Test.YtmbdphefnalenaaZi0
namespace Go.Proofs.Ytmbdphefnalenaa.Pure
open Go.RowKit Go.Proofs.Ytmbdphefnalenaa.Print Go.Proofs.YtmbdphefnalenaaW.PrintWords Go.Proofs.YtmbdphefnalenaaW.PrintLast

theorem stock_more {a : Int} {l : List S49} (h : stockB a l = true) (ha : a + 1 ≤ 9) : stockB (a + 1) l = true ∧ freeV (a + 1) l = freeV a l + 1 := by
  obtain ⟨h1, h2, h3, h4⟩ := stock_parts h
  have u := stock_used h
  have u2 := free_used l (a + 1) h3 (by omega) (by omega) (by omega)
  refine ⟨?_, by omega⟩
  unfold stockB
  simp only [Bool.and_eq_true, decide_eq_true_eq, List.all_eq_true]
  exact ⟨⟨⟨by omega, h2⟩, h3⟩, by omega⟩
theorem ofV_more (a : Int) (ha : a + 1 ≤ 9) : ∀ (rs : List S32) (l : List S49), stockB a l = true → (ofV a l rs).2.2 = true → ofV (a + 1) l rs = (a + 1, (ofV a l rs).2.1, true) := by
  intro rs
  induction rs with
  | nil => intro l h _; rfl
  | cons r rs ih =>
    intro l h hk
    simp only [ofV] at hk ⊢
    by_cases g : (recB r.f0 r.f1 r.f2 && mayV a l r.f0 r.f1 r.f2) = true
    · rw [if_pos g] at hk ⊢
      rw [Bool.and_eq_true] at g
      have hm := stock_more h ha
      have g2 : mayV (a + 1) l r.f0 r.f1 r.f2 = true := by
        have gv := g.2
        unfold mayV at gv ⊢
        by_cases e1 : r.f0 = 1
        · rw [if_pos e1] at gv ⊢
          simp only [decide_eq_true_eq] at gv ⊢
          exact ⟨gv.1, by omega⟩
        · rw [if_neg e1] at gv ⊢; exact gv
      rw [if_pos (by rw [g.1, g2]; rfl)]
      exact ih _ (do_well h g.1 g.2) hk
    · rw [if_neg g] at hk; cases hk
theorem more_no (k : Nat) (hk : 120 ≤ k) (w a : Int) (rs : List S32) (l : List S49) (o x : Bool) (hl : l.length ≤ 6) (hx : x = true) : Ex (laws_FnStockMore.j0 (k + 1) w rs o o x a l a l) (fun r => r = true) := by
  rw [laws_FnStockMore.j0, if_pos hx, if_pos (by simp), lnStock_refl a l (by omega) k (by omega)]
  exact ⟨true, rfl, rfl⟩
theorem FnStockMore : laws_FnStockMore.Pure := by
  intro l0 _ _ h0
  obtain ⟨k, hk⟩ : ∃ k : Nat, 200 ≤ k := ⟨200, Nat.le_refl _⟩
  refine ⟨k + 1, Ex.some_ ?_⟩
  unfold laws_FnStockMore.f
  refine Ex.ite (fun _ => Ex.ret rfl) (fun _ => Ex.bind (drawStockOf_ex (k + 1) l0 h0 (by omega)) (fun r hr => ?_))
  obtain ⟨w, rs⟩ := r
  obtain ⟨hw, hl, hs⟩ := hr
  dsimp only at hw hl hs
  dsimp only
  rw [stockOf_spec w rs (by omega) 4 hs (by omega) (k + 1) (by omega), stockOf_impl w rs (by omega) (k + 1) (by omega), Option.bind_some, Option.bind_some, if_neg (by simp)]
  by_cases h : (stockOfV w rs).2.2 = true
  · obtain ⟨g1, g2, g3⟩ := stockOf_well h
    have hlen : (stockOfV w rs).2.1.length = 6 := (stock_parts g3).2.1
    rw [lnStock_refl _ _ (by omega) (k + 1) (by omega), Option.bind_some, if_pos rfl, if_pos h]
    by_cases h9 : w = 9
    · exact more_no k (by omega) _ _ _ _ _ _ (by omega) (by simp [h9])
    · have hx : (w == 9) = false := by simp [h9]
      rw [hx, laws_FnStockMore.j0, if_neg (by simp), w64 (by omega) (by omega), stockOf_impl (w + 1) rs (by omega) k (by omega)]
      have h' : (ofV w six rs).2.2 = true := by unfold stockOfV at h; rw [if_pos g1] at h; exact h
      have e : stockOfV (w + 1) rs = (w + 1, (ofV w six rs).2.1, true) := by
        unfold stockOfV
        rw [if_pos (by omega)]
        exact ofV_more w (by omega) rs six (six_well g1) h'
      have e0 : stockOfV w rs = ofV w six rs := by unfold stockOfV; rw [if_pos g1]
      rw [e0] at g2 g3 ⊢
      have hm := stock_more g3 (by omega)
      have hlen2 : (ofV w six rs).2.1.length = 6 := (stock_parts g3).2.1
      rw [e, Option.bind_some]
      dsimp only
      unfold impl_StockFree.f
      rw [if_pos rfl, g2, stockOk_impl _ _ k (by omega), stockOk_impl _ _ k (by omega), hm.1, g3, free_impl _ _ (by omega) k (by omega), free_impl _ _ (by omega) k (by omega), hm.2]
      have hu := stock_used g3
      rw [Option.bind_some, if_pos rfl, Option.bind_some, Option.bind_some, Option.bind_some, if_pos rfl, Option.bind_some, Option.bind_some, w64 (by omega) (by omega), if_pos rfl]
      exact ⟨true, by simp, rfl⟩
  · have h' : (stockOfV w rs).2.2 = false := by simpa using h
    rw [if_neg h, stockOf_fail h', lnStock_refl 0 [] (by simp) (k + 1) (by simp only [List.length_nil]; omega), Option.bind_some, if_pos rfl]
    exact more_no k (by omega) _ _ _ _ _ _ (by simp) rfl

end Go.Proofs.Ytmbdphefnalenaa.Pure
