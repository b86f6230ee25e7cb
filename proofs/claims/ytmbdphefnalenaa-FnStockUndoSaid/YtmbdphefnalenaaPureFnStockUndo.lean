/- What is undone is free again: of every code the law is true. Proved: the law's one pure statement. No condition. -/
import Derived.Test.YtmbdphefnalenaaPureDrawMay
import Derived.Test.YtmbdphefnalenaaPureLnStock
import Derived.Test.YtmbdphefnalenaaPureStockAfter
import Derived.Test.YtmbdphefnalenaaZa17
namespace Go.Proofs.Ytmbdphefnalenaa.Pure
open Go.RowKit Go.Proofs.Ytmbdphefnalenaa.Print Go.Proofs.YtmbdphefnalenaaW.PrintWords Go.Proofs.YtmbdphefnalenaaW.PrintLast

theorem drawStockDo_ex (k : Nat) (l : List Int) (h : ∀ x ∈ l, (Lit.int .u8 x).wf = true) (hk : 150 ≤ k) : Ex (spec_DrawStockDo.f k l) MayDrawn := by
  unfold spec_DrawStockDo.f
  exact Ex.bind (drawStockMay_ex k l h hk) (fun r hr => Ex.ret hr)
theorem stockUndo_j1 (k : Nat) (hk : 100 ≤ k) (n : List Int) (a : Int) (l : List S49) (hs : stockB a l = true) (A : Int) (B : List S49) : Ex (laws_FnStockUndo.j1 k n true true false A B a l) (fun r => r = true) := by
  obtain ⟨k, rfl⟩ := ok_fuel (show 0 < k by omega)
  have h6 := (stock_parts hs).2.1
  have hf := (stock_parts hs).2.2.2
  obtain ⟨u1, u2, u3⟩ := stock_used hs
  have e0 : 0 ≤ (n.length : Int) % 6 := Int.emod_nonneg _ (by omega)
  have e1 : (n.length : Int) % 6 < 6 := Int.emod_lt_of_pos _ (by omega)
  rw [laws_FnStockUndo.j1, if_neg (by simp)]
  generalize hq : 1 + (n.length : Int) % 6 = t
  have g3 : 1 ≤ t := by omega
  have g4 : t ≤ 6 := by omega
  have r1 : rd [1] 0 = 1 := by decide
  rw [stockDo_impl _ _ _ _ _ k (by omega)]
  by_cases h1 : stockMayB a l 1 t [1] = true
  · have hv1 := (may_parts h1).2.2
    unfold mayV at hv1
    rw [if_pos rfl, decide_eq_true_eq] at hv1
    have hs1 := do_mayB h1
    have hl1 : (doV l 1 t [1]).length = 6 := (stock_parts hs1).2.1
    have hat : atT (doV l 1 t [1]) t = ⟨1, 1⟩ := by rw [at_do h6 g3 g4]; unfold newH; rw [if_pos rfl, r1]
    have h2 : stockMayB a (doV l 1 t [1]) 3 t [] = true := by
      unfold stockMayB
      rw [hs1, rec_close g3 g4 3 (.inr rfl)]
      unfold mayV
      rw [hat]; simp
    have hs2 := do_mayB h2
    have hl2 : (doV (doV l 1 t [1]) 3 t []).length = 6 := (stock_parts hs2).2.1
    have hat2 : atT (doV (doV l 1 t [1]) 3 t []) t = ⟨1, 3⟩ := by rw [at_do hl1 g3 g4]; unfold newH; rw [if_neg (by decide), if_neg (by decide), hat]
    have n3 : stockMayB a (doV (doV l 1 t [1]) 3 t []) 1 t [1] = false := by
      unfold stockMayB mayV
      rw [hat2]; simp
    have hu1 := used_do h1
    have hu2 := used_do h2
    have w0 : wH (atT l t) = 0 := by unfold wH; rw [if_neg (by omega)]
    have w1 : wH (newH l 1 t [1]) = 1 := by unfold newH; rw [if_pos rfl, r1]; simp [wH]
    have w2 : wH (atT (doV l 1 t [1]) t) = 1 := by rw [hat]; simp [wH]
    have w3 : wH (newH (doV l 1 t [1]) 3 t []) = 0 := by unfold newH; rw [if_neg (by decide), if_neg (by decide), hat]; simp [wH]
    obtain ⟨v1, v2, v3⟩ := stock_used hs2
    have hat2' : rd_T49 (doV (doV l 1 t [1]) 3 t []) (t - 1) = ⟨1, 3⟩ := hat2
    rw [stockDoV_yes h1]
    simp only [Option.bind_some, if_true]
    rw [stockDo_impl _ _ _ _ _ k (by omega), stockDoV_yes h2]
    simp only [Option.bind_some, if_true]
    unfold impl_StockFree.f
    rw [stockDo_impl _ _ _ _ _ k (by omega), stockDoV_no n3, stockOk_impl a _ k (by omega), hs2, free_impl _ a (by omega) k (by omega), stockOk_impl a _ k (by omega), hs, free_impl _ a (by omega) k (by omega)]
    simp only [Option.bind_some, if_true]
    rw [if_neg (by simp), if_pos (by omega), if_pos (by omega), if_pos (by omega), hat2']
    exact ⟨true, by simp, rfl⟩
  · have h1' : stockMayB a l 1 t [1] = false := by simpa using h1
    have hv : ¬ ((atT l t).f1 = 0 ∧ rd [1] 0 ≤ freeV a l) := by
      intro hc
      apply h1
      unfold stockMayB
      rw [hs, rec_one g3 g4]
      unfold mayV
      rw [if_pos rfl, decide_eq_true hc]; rfl
    rw [stockDoV_no h1']
    simp only [Option.bind_some]
    rw [if_neg (by simp), if_pos (by omega), if_pos (by omega)]
    by_cases g : (atT l t).f1 = 0
    · have g' : (rd_T49 l (t - 1)).f1 = 0 := g
      unfold impl_StockFree.f
      rw [if_pos g', stockOk_impl a l k (by omega), hs, free_impl l a (by omega) k (by omega)]
      simp only [Option.bind_some, if_true]
      have : freeV a l = 0 := by
        rw [r1] at hv
        omega
      rw [this]
      exact ⟨true, rfl, rfl⟩
    · have g' : ¬ (rd_T49 l (t - 1)).f1 = 0 := g
      rw [if_neg g']
      exact ⟨true, rfl, rfl⟩
theorem FnStockUndo : laws_FnStockUndo.Pure := by
  intro l0 l1 _ _ h0 _ _ _
  obtain ⟨k, hk⟩ : ∃ k : Nat, 200 ≤ k := ⟨200, Nat.le_refl _⟩
  refine ⟨k + 1, Ex.some_ ?_⟩
  have hj : ∀ x : Bool, Ex (laws_FnStockUndo.j0 (k + 1) l0 l1 x) (fun r => r = true) := by
    intro x
    rw [laws_FnStockUndo.j0]
    refine Ex.ite (fun _ => Ex.ret rfl) (fun _ => Ex.bind (drawStockDo_ex k l0 h0 (by omega)) (fun r hr => ?_))
    obtain ⟨a, l, c, t, m⟩ := r
    obtain ⟨hl, hm⟩ := hr
    dsimp only at hl hm
    dsimp only
    rw [stockDo_spec a l c t m (by omega) (by omega) k (by omega), stockDo_impl a l c t m k (by omega)]
    simp only [Option.bind_some, bne_self_eq_false]
    rw [if_neg (by simp)]
    by_cases h : stockMayB a l c t m = true
    · have hs := do_mayB h
      have hlen : (doV l c t m).length = 6 := (stock_parts hs).2.1
      rw [stockDoV_yes h]
      dsimp only
      rw [lnStock_refl a _ (by omega) k (by omega), Option.bind_some, if_pos rfl]
      exact stockUndo_j1 k (by omega) l1 a _ hs _ _
    · rw [stockDoV_no (by simpa using h)]
      dsimp only
      rw [lnStock_refl 0 [] (by simp) k (by simp only [List.length_nil]; omega), Option.bind_some, if_pos rfl]
      obtain ⟨k, rfl⟩ := ok_fuel (show 0 < k by omega)
      rw [laws_FnStockUndo.j1, if_pos (by rfl), if_pos (by rfl), lnStock_refl 0 [] (by simp) k (by simp only [List.length_nil]; omega)]
      exact ⟨true, rfl, rfl⟩
  unfold laws_FnStockUndo.f
  exact Ex.ite (fun _ => hj _) (fun _ => hj _)

end Go.Proofs.Ytmbdphefnalenaa.Pure
