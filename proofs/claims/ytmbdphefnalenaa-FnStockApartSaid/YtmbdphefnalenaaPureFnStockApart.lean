/- Two trips do not mind which is first: of every code the law is true. Proved: the law's one pure statement. No condition. -/
import Derived.Test.YtmbdphefnalenaaPureDrawMay
import Derived.Test.YtmbdphefnalenaaPureLnStock
import Derived.Test.YtmbdphefnalenaaPureStockAfter
import Derived.Test.YtmbdphefnalenaaZk0
namespace Go.Proofs.Ytmbdphefnalenaa.Pure
open Go.RowKit Go.Proofs.Ytmbdphefnalenaa.Print Go.Proofs.YtmbdphefnalenaaW.PrintWords Go.Proofs.YtmbdphefnalenaaW.PrintLast

theorem drawStockDo_ex (k : Nat) (l : List Int) (h : ∀ x ∈ l, (Lit.int .u8 x).wf = true) (hk : 150 ≤ k) : Ex (spec_DrawStockDo.f k l) MayDrawn := by
  unfold spec_DrawStockDo.f
  exact Ex.bind (drawStockMay_ex k l h hk) (fun r hr => Ex.ret hr)
/-- The first may come behind the other, too. -/
theorem apart {a : Int} {l : List S49} {c t c' t' : Int} {m m' : List Int} (h : stockMayB a l c t m = true) (h1 : stockMayB a (doV l c t m) c' t' m' = true) (h2 : stockMayB a l c' t' m' = true) (hne : t' ≠ t) : stockMayB a (doV l c' t' m') c t m = true := by
  obtain ⟨hs, hr, hv⟩ := may_parts h
  obtain ⟨hs1, hr1, hv1⟩ := may_parts h1
  obtain ⟨g1, g2, g3, g4, g5⟩ := rec_parts hr
  obtain ⟨k1, k2, k3, k4, k5⟩ := rec_parts hr1
  have hs2 := do_mayB h2
  have hs3 := do_mayB h1
  rw [do_comm l g3 k3 (Ne.symm hne)] at hs3
  have u2 := stock_used hs2
  have u3 := stock_used hs3
  have f3 := (stock_parts hs3).2.2.2
  have hat : atT (doV l c' t' m') t = atT l t := at_other k3 g3 hne
  have key : mayV a (doV l c' t' m') c t m = true := by
    unfold mayV at hv ⊢
    rw [hat]
    by_cases e1 : c = 1
    · rw [if_pos e1] at hv ⊢
      simp only [decide_eq_true_eq] at hv ⊢
      refine ⟨hv.1, ?_⟩
      obtain ⟨i, hi⟩ := Int.eq_ofNat_of_zero_le (show 0 ≤ t - 1 by omega)
      have hlen : (doV l c' t' m').length = 6 := (stock_parts hs2).2.1
      have hil : i < (doV l c' t' m').length := by omega
      have e : atT (doV l c' t' m') t = (doV l c' t' m')[i] := by unfold atT; rw [hi, rdH hil]
      have hu : used (doV (doV l c' t' m') c t m) = used (doV l c' t' m') - wH (doV l c' t' m')[i] + wH (newH (doV l c' t' m') c t m) := by
        show used ((doV l c' t' m').set (t - 1).toNat (newH (doV l c' t' m') c t m)) = _
        rw [hi, Int.toNat_natCast]
        exact used_set _ i _ hil
      have w0 : wH (doV l c' t' m')[i] = 0 := by
        rw [← e, hat]; unfold wH; rw [if_neg (by omega)]
      have w1 : wH (newH (doV l c' t' m') c t m) = rd m 0 := by
        unfold newH; rw [if_pos e1]; simp [wH]
      omega
    · rw [if_neg e1] at hv ⊢; exact hv
  unfold stockMayB
  rw [hs2, hr, key]; rfl
theorem apart_j3 (k : Nat) (hk : 100 ≤ k) (a : Int) (c t : Int) (m : List Int) (A : Int) (B : List S49) (y : Int) (z : List S49) (x : Bool) (hx : x = true ∨ (A = a ∧ y = a ∧ stockMayB a z c t m = true ∧ B = doV z c t m)) : Ex (laws_FnStockApart.j3 k x c t m A B y z) (fun r => r = true) := by
  obtain ⟨k, rfl⟩ := ok_fuel (show 0 < k by omega)
  simp only [laws_FnStockApart.j3]
  rcases hx with hx | ⟨hA, hy, hz, hB⟩
  · rw [if_pos hx]; exact Ex.ret rfl
  · subst hA hy hB
    refine Ex.ite (fun _ => Ex.ret rfl) (fun _ => ?_)
    rw [stockDo_impl _ _ _ _ _ k (by omega), stockDoV_yes hz]
    have hlen : (doV z c t m).length = 6 := (stock_parts (do_mayB hz)).2.1
    simp only [Option.bind_some, if_true]
    rw [lnStock_refl _ _ (by omega) k (by omega)]
    exact ⟨true, rfl, rfl⟩
theorem apart_j2 (k : Nat) (hk : 101 ≤ k) (a : Int) (l : List S49) (c t c' t' : Int) (m m' : List Int) (h : stockMayB a l c t m = true) : Ex (laws_FnStockApart.j2 k t' a l c t m a (doV l c t m) c' t' m') (fun r => r = true) := by
  obtain ⟨k, rfl⟩ := ok_fuel (show 0 < k by omega)
  simp only [laws_FnStockApart.j2]
  rw [stockDo_impl _ _ _ _ _ k (by omega), stockDo_impl _ _ _ _ _ k (by omega)]
  refine Ex.bindS (Ex.bindS (Ex.ite (fun _ => apart_j3 k (by omega) a c t m _ _ _ _ _ (.inl rfl)) (fun hne => ?_)))
  by_cases h1 : stockMayB a (doV l c t m) c' t' m' = true
  · by_cases h2 : stockMayB a l c' t' m' = true
    · have g := (may_parts h).2.1
      have g' := (may_parts h1).2.1
      rw [stockDoV_yes h1, stockDoV_yes h2, if_pos rfl]
      refine apart_j3 k (by omega) a c t m _ _ _ _ _ (.inr ⟨rfl, rfl, apart h h1 h2 hne, ?_⟩)
      exact do_comm l (rec_parts g).2.2.1 (rec_parts g').2.2.1 (Ne.symm hne)
    · rw [stockDoV_yes h1, stockDoV_no (by simpa using h2), if_pos rfl]
      exact apart_j3 k (by omega) a c t m _ _ _ _ _ (.inl rfl)
  · rw [stockDoV_no (by simpa using h1), if_neg (by simp)]
    exact apart_j3 k (by omega) a c t m _ _ _ _ _ (.inl rfl)
theorem apart_j1 (l1 : List Int) (k : Nat) (hk : 120 ≤ k) (n : Int) (hn : n = (l1.length : Int)) (h0 : 0 ≤ n) (hn2 : n ≤ 9223372036854775807) (a : Int) (l : List S49) (c t : Int) (m : List Int) (h : stockMayB a l c t m = true) : Ex (laws_FnStockApart.j1 (k + 1) l1 true true (!true) a l c t m a (doV l c t m) a (doV l c t m)) (fun r => r = true) := by
  simp only [laws_FnStockApart.j1, ← hn]
  have hd : (0 : Int) ≤ n / 6 := Int.ediv_nonneg (by omega) (by omega)
  have hd2 : n / 6 ≤ n := Int.ediv_le_self _ (by omega)
  rw [if_neg (by simp), w64 (n := n / 6) (by omega) (by omega)]
  have ht := tmod_lt (x := n / 6) (n := 3) hd (by omega)
  generalize Int.tmod (n / 6) 3 = z at ht
  generalize 1 + n % 6 = t'
  refine Ex.bindS (Ex.ite (fun _ => Ex.ite (fun _ => Ex.ite (fun _ => apart_j2 k (by omega) a l c t _ t' m _ h) (fun _ => apart_j2 k (by omega) a l c t _ t' m _ h)) (fun hq => ?_)) (fun hq => by omega))
  simp only [List.length_cons, List.length_nil] at hq
  omega
theorem apart_no (l1 : List Int) (k : Nat) (hk : 120 ≤ k) (a : Int) (l : List S49) (c t : Int) (m : List Int) : Ex (laws_FnStockApart.j1 (k + 1) l1 false false (!false) a l c t m 0 [] 0 []) (fun r => r = true) := by
  rw [laws_FnStockApart.j1, if_pos (by rfl), if_pos (by rfl), lnStock_refl 0 [] (by simp) k (by simp only [List.length_nil]; omega)]
  exact ⟨true, rfl, rfl⟩
theorem FnStockApart : laws_FnStockApart.Pure := by
  intro l0 l1 _ _ h0 hl1 _ _
  obtain ⟨k, hk⟩ : ∃ k : Nat, 200 ≤ k := ⟨200, Nat.le_refl _⟩
  refine ⟨k + 2, Ex.some_ ?_⟩
  have hj : ∀ x : Bool, Ex (laws_FnStockApart.j0 (k + 2) l0 l1 x) (fun r => r = true) := by
    intro x
    simp only [laws_FnStockApart.j0]
    refine Ex.ite (fun _ => Ex.ret rfl) (fun _ => Ex.bind (drawStockDo_ex (k + 1) l0 h0 (by omega)) (fun r hr => ?_))
    obtain ⟨a, l, c, t, m⟩ := r
    obtain ⟨hl, hm⟩ := hr
    dsimp only at hl hm
    dsimp only
    rw [stockDo_spec a l c t m (by omega) (by omega) (k + 1) (by omega), stockDo_impl a l c t m (k + 1) (by omega)]
    simp only [Option.bind_some, bne_self_eq_false]
    rw [if_neg (by simp)]
    by_cases h : stockMayB a l c t m = true
    · have hs := do_mayB h
      have hlen : (doV l c t m).length = 6 := (stock_parts hs).2.1
      rw [stockDoV_yes h]
      dsimp only
      rw [lnStock_refl a _ (by omega) (k + 1) (by omega), Option.bind_some, if_pos rfl]
      exact apart_j1 l1 k (by omega) _ rfl (by omega) (by simp only [maxLen] at hl1; omega) a l c t m h
    · rw [stockDoV_no (by simpa using h)]
      dsimp only
      rw [lnStock_refl 0 [] (by simp) (k + 1) (by simp only [List.length_nil]; omega), Option.bind_some, if_pos rfl]
      exact apart_no l1 k (by omega) a l c t m
  unfold laws_FnStockApart.f
  exact Ex.ite (fun _ => hj _) (fun _ => hj _)

end Go.Proofs.Ytmbdphefnalenaa.Pure
