/- What is closed is had for good: of every code the law is true. Proved: the law's one pure statement. No condition. -/
import Derived.Test.YtmbdphefnalenaaPureDrawMay
import Derived.Test.YtmbdphefnalenaaPureLnStock
import Derived.Test.YtmbdphefnalenaaPureStockAfter
import Derived.Test.YtmbdphefnalenaaZr0
namespace Go.Proofs.Ytmbdphefnalenaa.Pure
open Go.RowKit Go.Proofs.Ytmbdphefnalenaa.Print Go.Proofs.YtmbdphefnalenaaW.PrintWords Go.Proofs.YtmbdphefnalenaaW.PrintLast

theorem drawStockDo_ex (k : Nat) (l : List Int) (h : ∀ x ∈ l, (Lit.int .u8 x).wf = true) (hk : 150 ≤ k) : Ex (spec_DrawStockDo.f k l) MayDrawn := by
  unfold spec_DrawStockDo.f
  exact Ex.bind (drawStockMay_ex k l h hk) (fun r hr => Ex.ret hr)
theorem stockKeep_j0 (k : Nat) (hk : 100 ≤ k) (a : Int) (l : List S49) (t : Int) (m : List Int) (h : stockMayB a l 1 t m = true) (A : Int) (B : List S49) : Ex (laws_FnStockKeep.j0 k true true false 1 t m A B a (doV l 1 t m)) (fun r => r = true) := by
  obtain ⟨k, rfl⟩ := ok_fuel (show 0 < k by omega)
  have hs := do_mayB h
  obtain ⟨hs0, hr, hv⟩ := may_parts h
  obtain ⟨g1, g2, g3, g4, g5⟩ := rec_parts hr
  have h6 := (stock_parts hs0).2.1
  have hm := g5 rfl
  have hat : atT (doV l 1 t m) t = ⟨rd m 0, 1⟩ := by rw [at_do h6 g3 g4]; unfold newH; rw [if_pos rfl]
  have h2 : stockMayB a (doV l 1 t m) 2 t [] = true := by
    unfold stockMayB
    rw [hs, rec_close g3 g4 2 (.inl rfl)]
    unfold mayV
    rw [hat]; simp
  have hs2 := do_mayB h2
  have hl1 : (doV l 1 t m).length = 6 := (stock_parts hs).2.1
  have hl2 : (doV (doV l 1 t m) 2 t []).length = 6 := (stock_parts hs2).2.1
  have hat2 : atT (doV (doV l 1 t m) 2 t []) t = ⟨rd m 0, 2⟩ := by rw [at_do hl1 g3 g4]; unfold newH; rw [if_neg (by decide), if_pos rfl, hat]
  have n3 : stockMayB a (doV (doV l 1 t m) 2 t []) 3 t [] = false := by
    unfold stockMayB mayV
    rw [hat2]; simp
  have n2 : stockMayB a (doV (doV l 1 t m) 2 t []) 2 t [] = false := by
    unfold stockMayB mayV
    rw [hat2]; simp
  have hu := used_do h2
  have w0 : wH (atT (doV l 1 t m) t) = rd m 0 := by rw [hat]; simp [wH]
  have w1 : wH (newH (doV l 1 t m) 2 t []) = rd m 0 := by unfold newH; rw [if_neg (by decide), if_pos rfl, hat]; simp [wH]
  obtain ⟨u1, u2, u3⟩ := stock_used hs
  obtain ⟨v1, v2, v3⟩ := stock_used hs2
  have hat2' : rd_T49 (doV (doV l 1 t m) 2 t []) (t - 1) = ⟨rd m 0, 2⟩ := hat2
  rw [laws_FnStockKeep.j0, if_neg (by simp), stockDo_impl _ _ _ _ _ k (by omega), stockDoV_yes h2]
  simp only [Option.bind_some, if_true]
  unfold impl_StockFree.f
  rw [stockMay_impl _ _ _ _ _ k (by omega), n3, stockMay_impl _ _ _ _ _ k (by omega), n2, stockOk_impl a _ k (by omega), hs2, free_impl _ a (by omega) k (by omega), stockOk_impl a _ k (by omega), hs, free_impl _ a (by omega) k (by omega)]
  simp only [Option.bind_some, if_true]
  rw [if_neg (by simp), if_neg (by simp), if_pos (by omega), w64 (n := t - 1) (by omega) (by omega), if_pos (by omega), if_pos (by omega), if_pos (by omega), hat2']
  exact ⟨true, by simp, rfl⟩
theorem FnStockKeep : laws_FnStockKeep.Pure := by
  intro l0 _ _ h0
  obtain ⟨k, hk⟩ : ∃ k : Nat, 200 ≤ k := ⟨200, Nat.le_refl _⟩
  refine ⟨k + 1, Ex.some_ ?_⟩
  unfold laws_FnStockKeep.f
  refine Ex.ite (fun _ => Ex.ret rfl) (fun _ => Ex.bind (drawStockDo_ex (k + 1) l0 h0 (by omega)) (fun r hr => ?_))
  obtain ⟨a, l, c, t, m⟩ := r
  obtain ⟨hl, hm⟩ := hr
  dsimp only at hl hm
  dsimp only
  rw [stockDo_spec a l c t m (by omega) (by omega) (k + 1) (by omega), stockDo_impl a l c t m (k + 1) (by omega)]
  simp only [Option.bind_some, bne_self_eq_false]
  rw [if_neg (by simp)]
  by_cases h : stockMayB a l c t m = true
  · have hs := do_mayB h
    have hlen : (doV l c t m).length = 6 := (stock_parts hs).2.1
    rw [stockDoV_yes h]
    dsimp only
    rw [lnStock_refl a _ (by omega) (k + 1) (by omega), Option.bind_some, if_pos rfl, if_pos rfl]
    by_cases e : c = 1
    · subst e
      exact stockKeep_j0 (k + 1) (by omega) a l t m h _ _
    · have e' : (c != 1) = true := by simpa using e
      rw [e', laws_FnStockKeep.j0, if_pos rfl, if_pos (by rfl), lnStock_refl a _ (by omega) k (by omega)]
      exact ⟨true, rfl, rfl⟩
  · rw [stockDoV_no (by simpa using h)]
    dsimp only
    rw [lnStock_refl 0 [] (by simp) (k + 1) (by simp only [List.length_nil]; omega), Option.bind_some, if_pos rfl, if_neg (by simp), laws_FnStockKeep.j0, if_pos (by rfl), if_pos (by rfl), lnStock_refl 0 [] (by simp) k (by simp only [List.length_nil]; omega)]
    exact ⟨true, rfl, rfl⟩

end Go.Proofs.Ytmbdphefnalenaa.Pure
