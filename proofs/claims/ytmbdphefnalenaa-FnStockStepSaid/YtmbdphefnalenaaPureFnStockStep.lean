/- A record changes what its trip has, and nothing else: of every code the law is true. Proved: the law's one pure statement. No condition. -/
import Derived.Test.YtmbdphefnalenaaPureDrawMay
import Derived.Test.YtmbdphefnalenaaPureLnStock
import Derived.Test.YtmbdphefnalenaaPureStockAfter
import Derived.Test.YtmbdphefnalenaaZa17
namespace Go.Proofs.Ytmbdphefnalenaa.Pure
open Go.RowKit Go.Proofs.Ytmbdphefnalenaa.Print Go.Proofs.YtmbdphefnalenaaW.PrintWords Go.Proofs.YtmbdphefnalenaaW.PrintLast

theorem drawStockDo_ex (k : Nat) (l : List Int) (h : ∀ x ∈ l, (Lit.int .u8 x).wf = true) (hk : 150 ≤ k) : Ex (spec_DrawStockDo.f k l) MayDrawn := by
  unfold spec_DrawStockDo.f
  exact Ex.bind (drawStockMay_ex k l h hk) (fun r hr => Ex.ret hr)
theorem stockStep_l0 (a : Int) (l : List S49) (c t : Int) (m : List Int) (h : stockMayB a l c t m = true) : ∀ (d k i : Nat), i + d = 6 → d + 30 < k → Ex (laws_FnStockStep.l0 k i a l c t m a (doV l c t m)) (fun r => r = true) := by
  have hs := do_mayB h
  obtain ⟨hs0, hr, hv⟩ := may_parts h
  obtain ⟨g1, g2, g3, g4, g5⟩ := rec_parts hr
  have hc := may_kind hv
  have h6 := (stock_parts hs0).2.1
  have hlen : (doV l c t m).length = 6 := (stock_parts hs).2.1
  have hu := used_do h
  obtain ⟨u1, u2, u3⟩ := stock_used hs0
  obtain ⟨v1, v2, v3⟩ := stock_used hs
  have hat : rd_T49 (doV l c t m) (t - 1) = newH l c t m := at_do h6 g3 g4
  have hat0 : rd_T49 l (t - 1) = atT l t := rfl
  intro d
  induction d with
  | zero =>
    intro k i hi hk
    obtain ⟨k, rfl⟩ := ok_fuel (show 0 < k by omega)
    simp only [laws_FnStockStep.l0]
    unfold impl_StockFree.f
    rw [if_neg (by omega), w64 (n := t - 1) (by omega) (by omega), if_pos (by omega), if_pos (by omega), if_pos (by omega), stockOk_impl a l k (by omega), hs0, free_impl l a (by omega) k (by omega), stockOk_impl a _ k (by omega), hs, free_impl _ a (by omega) k (by omega), hat, hat0]
    simp only [Option.bind_some, if_true]
    have hb : ∀ x : Int, freeV a (doV l c t m) - freeV a l = x → wrap64 (freeV a (doV l c t m) - freeV a l) = x := fun x hx => by rw [hx, w64 (by omega) (by omega)]
    unfold newH at hu ⊢
    unfold mayV at hv
    by_cases e1 : c = 1
    · have := g5 e1
      rw [if_pos e1] at hu hv ⊢
      simp only [decide_eq_true_eq] at hv
      have w0 : wH (atT l t) = 0 := by unfold wH; rw [if_neg (by omega)]
      have w1 : wH (⟨rd m 0, 1⟩ : S49) = rd m 0 := by simp [wH]
      rw [if_pos e1, if_pos (by omega)]
      refine Ex.ite (fun _ => Ex.ret ?_) (fun hn => absurd ?_ hn)
      · rw [hb (-(rd m 0)) (by omega), w64 (n := -(rd m 0)) (by omega) (by omega)]; simp
      · simp
    · rw [if_neg e1] at hu hv ⊢
      by_cases e2 : c = 2
      · rw [if_pos e2] at hu hv ⊢
        simp only [decide_eq_true_eq] at hv
        have w0 : wH (atT l t) = (atT l t).f0 := by unfold wH; rw [if_pos (by omega)]
        have w1 : wH (⟨(atT l t).f0, 2⟩ : S49) = (atT l t).f0 := by simp [wH]
        rw [if_neg e1, if_pos e2]
        refine Ex.ite (fun _ => Ex.ret ?_) (fun hn => absurd ?_ hn)
        · rw [hb 0 (by omega)]; simp
        · simp
      · rw [if_neg e2] at hu hv ⊢
        have e3 : c = 3 := by omega
        rw [if_pos e3] at hv
        simp only [decide_eq_true_eq] at hv
        have w1 : wH (⟨(atT l t).f0, 3⟩ : S49) = 0 := by simp [wH]
        have w0 : wH (atT l t) = (atT l t).f0 := by
          rcases hv with g | g
          · unfold wH; rw [if_pos (by omega)]
          · obtain ⟨i', hi'⟩ := Int.eq_ofNat_of_zero_le (show 0 ≤ t - 1 by omega)
            have hil : i' < l.length := by omega
            have e : atT l t = l[i'] := by unfold atT; rw [hi', rdH hil]
            have hh := (stock_parts hs0).2.2.1 l[i'] (List.getElem_mem hil)
            rw [← e] at hh
            unfold holdB at hh
            rw [if_pos g] at hh
            unfold wH; rw [if_neg (by omega)]
            simp at hh; omega
        rw [if_neg e1, if_neg e2]
        refine Ex.ite (fun _ => Ex.ret ?_) (fun hn => absurd ?_ hn)
        · rw [hb (atT l t).f0 (by omega)]; simp
        · simp
  | succ d ih =>
    intro k i hi hk
    obtain ⟨k, rfl⟩ := ok_fuel (show 0 < k by omega)
    rw [laws_FnStockStep.l0, if_pos (by omega), w64 (n := t - 1) (by omega) (by omega), w64 (n := (i : Int) + 1) (by omega) (by omega), i1]
    by_cases e : (i : Int) = t - 1
    · rw [if_pos e]
      exact ih k (i + 1) (by omega) (by omega)
    · have ho : rd_T49 (doV l c t m) (i : Int) = rd_T49 l (i : Int) := by
        have := at_other (l := l) (c := c) (m := m) g3 (show 1 ≤ (i : Int) + 1 by omega) (show t ≠ (i : Int) + 1 by omega)
        unfold atT at this
        rw [show (i : Int) + 1 - 1 = (i : Int) by omega] at this
        exact this
      rw [if_neg e, if_pos (by omega), if_pos (by omega), ho]
      simp only [beq_self_eq_true, Bool.not_true, Bool.or_self]
      rw [if_neg (by simp)]
      exact ih k (i + 1) (by omega) (by omega)
theorem FnStockStep : laws_FnStockStep.Pure := by
  intro l0 _ _ h0
  obtain ⟨k, hk⟩ : ∃ k : Nat, 200 ≤ k := ⟨200, Nat.le_refl _⟩
  refine ⟨k + 1, Ex.some_ ?_⟩
  unfold laws_FnStockStep.f
  refine Ex.ite (fun _ => Ex.ret rfl) (fun _ => Ex.bind (drawStockDo_ex (k + 1) l0 h0 (by omega)) (fun r hr => ?_))
  obtain ⟨a, l, c, t, m⟩ := r
  obtain ⟨hl, hm⟩ := hr
  dsimp only at hl hm
  dsimp only
  rw [stockDo_spec a l c t m (by omega) (by omega) (k + 1) (by omega), stockDo_impl a l c t m (k + 1) (by omega)]
  simp only [Option.bind_some, bne_self_eq_false]
  rw [if_neg (by simp)]
  by_cases h : stockMayB a l c t m = true
  · have hs := do_mayB h
    have hlen : (doV l c t m).length = 6 := (stock_parts hs).2.1
    rw [stockDoV_yes h]
    dsimp only
    rw [lnStock_refl a _ (by omega) (k + 1) (by omega), Option.bind_some, if_pos rfl, laws_FnStockStep.j0, if_neg (by simp)]
    exact stockStep_l0 a l c t m h 6 k 0 (by omega) (by omega)
  · rw [stockDoV_no (by simpa using h)]
    dsimp only
    rw [lnStock_refl 0 [] (by simp) (k + 1) (by simp only [List.length_nil]; omega), Option.bind_some, if_pos rfl, laws_FnStockStep.j0, if_pos (by rfl), if_pos (by rfl), lnStock_refl 0 [] (by simp) k (by simp only [List.length_nil]; omega)]
    exact ⟨true, rfl, rfl⟩

end Go.Proofs.Ytmbdphefnalenaa.Pure
