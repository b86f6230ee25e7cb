/- Records come one behind the other, cut anywhere: of every code the law is true. Proved: the law's one pure statement. No condition. -/
import Derived.Test.YtmbdphefnalenaaPureDrawOf
import Derived.Test.YtmbdphefnalenaaPureLnStock
import Derived.Test.YtmbdphefnalenaaPureStockAfter
import Derived.Test.YtmbdphefnalenaaZg0
namespace Go.Proofs.Ytmbdphefnalenaa.Pure
open Go.RowKit Go.Proofs.Ytmbdphefnalenaa.Print Go.Proofs.YtmbdphefnalenaaW.PrintWords Go.Proofs.YtmbdphefnalenaaW.PrintLast

theorem ofV_append (a : Int) (ys : List S32) : ∀ (xs : List S32) (l : List S49), (ofV a l xs).2.2 = true → ofV a l (xs ++ ys) = ofV a (ofV a l xs).2.1 ys := by
  intro xs
  induction xs with
  | nil => intro l _; rfl
  | cons x xs ih =>
    intro l h
    rw [List.cons_append]
    simp only [ofV] at h ⊢
    by_cases g : (recB x.f0 x.f1 x.f2 && mayV a l x.f0 x.f1 x.f2) = true
    · rw [if_pos g] at h ⊢
      rw [if_pos g]
      exact ih _ h
    · rw [if_neg g] at h; cases h
theorem ofV_append_no (a : Int) (ys : List S32) : ∀ (xs : List S32) (l : List S49), (ofV a l xs).2.2 = false → ofV a l (xs ++ ys) = (0, [], false) := by
  intro xs
  induction xs with
  | nil => intro l h; cases h
  | cons x xs ih =>
    intro l h
    rw [List.cons_append]
    simp only [ofV] at h ⊢
    by_cases g : (recB x.f0 x.f1 x.f2 && mayV a l x.f0 x.f1 x.f2) = true
    · rw [if_pos g] at h ⊢
      exact ih _ h
    · rw [if_neg g]
/-- Where the walk over what is left stands: fine, and then what is left leads to the end; or not fine, and then the end isn't. -/
def Stands (w : Int) (rs : List S32) (i : Nat) (fine : Bool) (a : Int) (l : List S49) : Prop :=
  (fine = true ∧ a = w ∧ stockB w l = true ∧ ofV w l (rs.drop i) = stockOfV w rs) ∨ (fine = false ∧ (stockOfV w rs).2.2 = false)
theorem stockOf_l0 (w : Int) (rs : List S32) (hl : rs.length ≤ 20) (A : Int) (L : List S49) (hA : A = (stockOfV w rs).1) (hL : L = (stockOfV w rs).2.1) (hLl : L.length ≤ 6) : ∀ (d k i : Nat) (fine : Bool) (a : Int) (l : List S49), i + d = rs.length → d + 60 < k → Stands w rs i fine a l →
    Ex (laws_FnStockOf.l0 k rs (stockOfV w rs).2.2 fine i A L a l) (fun r => r = true) := by
  intro d
  induction d with
  | zero =>
    intro k i fine a l hi hk hs
    obtain ⟨k, rfl⟩ := ok_fuel (show 0 < k by omega)
    rw [laws_FnStockOf.l0, if_neg (by omega)]
    rcases hs with ⟨h1, h2, h3, h4⟩ | ⟨h1, h2⟩
    · rw [List.drop_eq_nil_of_le (by omega)] at h4
      have e : stockOfV w rs = (w, l, true) := h4.symm
      rw [e] at hA hL ⊢
      dsimp only at hA hL ⊢
      subst h1 hA hL h2
      rw [if_pos (by rfl), if_pos rfl, lnStock_refl _ _ (by omega) k (by omega)]
      exact ⟨true, rfl, rfl⟩
    · rw [h1, h2, if_pos (by rfl), if_neg (by simp)]
      exact ⟨true, rfl, rfl⟩
  | succ d ih =>
    intro k i fine a l hi hk hs
    obtain ⟨k, rfl⟩ := ok_fuel (show 0 < k by omega)
    have hil : i < rs.length := by omega
    rw [laws_FnStockOf.l0, if_pos (by omega), w64 (n := (i : Int) + 1) (by omega) (by omega), i1, rdRec hil]
    rcases hs with ⟨h1, h2, h3, h4⟩ | ⟨h1, h2⟩
    · rw [if_pos h1, if_pos (by omega), stockDo_impl _ _ _ _ _ k (by omega), Option.bind_some]
      subst h2
      rw [List.drop_eq_getElem_cons hil] at h4
      simp only [ofV] at h4
      by_cases g : (recB rs[i].f0 rs[i].f1 rs[i].f2 && mayV a l rs[i].f0 rs[i].f1 rs[i].f2) = true
      · rw [if_pos g] at h4
        rw [Bool.and_eq_true] at g
        have hm : stockMayB a l rs[i].f0 rs[i].f1 rs[i].f2 = true := by unfold stockMayB; rw [h3, g.1, g.2]; rfl
        rw [stockDoV_yes hm]
        exact ih k (i + 1) _ _ _ (by omega) (by omega) (.inl ⟨rfl, rfl, do_mayB hm, h4⟩)
      · rw [if_neg g] at h4
        have hm : stockMayB a l rs[i].f0 rs[i].f1 rs[i].f2 = false := by
          unfold stockMayB; rw [h3, Bool.true_and]; exact Bool.eq_false_iff.mpr g
        rw [stockDoV_no hm]
        exact ih k (i + 1) _ _ _ (by omega) (by omega) (.inr ⟨rfl, by rw [← h4]⟩)
    · rw [if_neg (by simp [h1])]
      exact ih k (i + 1) _ _ _ (by omega) (by omega) (.inr ⟨h1, h2⟩)
theorem stockOf_j1 (k : Nat) (hk : 150 ≤ k) (m : List Int) (w : Int) (hw : 0 ≤ w ∧ w ≤ 9) (rs : List S32) (hl : rs.length ≤ 20) (x : Bool) (hx : x = false) (hLl : (stockOfV w rs).2.1.length ≤ 6) :
    Ex (laws_FnStockOf.j1 (k + 1) m w rs (stockOfV w rs).2.2 (stockOfV w rs).2.2 x (stockOfV w rs).1 (stockOfV w rs).2.1 (stockOfV w rs).1 (stockOfV w rs).2.1) (fun r => r = true) := by
  rw [laws_FnStockOf.j1, if_neg (by simp [hx]), w64 (n := (rs.length : Int) + 1) (by omega) (by omega), if_neg (by omega)]
  have e0 : 0 ≤ (m.length : Int) % ((rs.length : Int) + 1) := Int.emod_nonneg _ (by omega)
  have e1 : (m.length : Int) % ((rs.length : Int) + 1) < (rs.length : Int) + 1 := Int.emod_lt_of_pos _ (by omega)
  generalize (m.length : Int) % ((rs.length : Int) + 1) = n at e0 e1
  obtain ⟨n, rfl⟩ := Int.eq_ofNat_of_zero_le e0
  have hn : (rs.take n).length ≤ 20 := by rw [List.length_take]; omega
  rw [if_pos e0, if_pos (by omega), Int.toNat_natCast, stockOf_impl w (rs.take n) (by omega) k (by omega), Option.bind_some]
  have hcut : rs.take n ++ rs.drop n = rs := List.take_append_drop n rs
  have e2 : stockOfV w (rs.take n) = ofV w six (rs.take n) := by unfold stockOfV; rw [if_pos hw]
  have e3 : stockOfV w rs = ofV w six (rs.take n ++ rs.drop n) := by unfold stockOfV; rw [if_pos hw, hcut]
  refine stockOf_l0 w rs hl _ _ rfl rfl hLl (rs.length - n) k n _ _ _ (by omega) (by omega) ?_
  by_cases h : (stockOfV w (rs.take n)).2.2 = true
  · obtain ⟨g1, g2, g3⟩ := stockOf_well h
    refine .inl ⟨h, g2, g3, ?_⟩
    rw [e2] at h ⊢
    rw [e3]
    exact (ofV_append w (rs.drop n) (rs.take n) six h).symm
  · have h' : (stockOfV w (rs.take n)).2.2 = false := by simpa using h
    refine .inr ⟨h', ?_⟩
    rw [e2] at h'
    rw [e3, ofV_append_no w (rs.drop n) (rs.take n) six h']
theorem stockOf_len (w : Int) (rs : List S32) : (stockOfV w rs).2.1.length ≤ 6 := by
  by_cases h : (stockOfV w rs).2.2 = true
  · have := (stock_parts (stockOf_well h).2.2).2.1; omega
  · rw [stockOf_fail (by simpa using h)]; simp
theorem FnStockOf : laws_FnStockOf.Pure := by
  intro l0 l1 _ _ h0 _ _ _
  obtain ⟨k, hk⟩ : ∃ k : Nat, 200 ≤ k := ⟨200, Nat.le_refl _⟩
  refine ⟨k + 2, Ex.some_ ?_⟩
  have hj : ∀ x : Bool, Ex (laws_FnStockOf.j0 (k + 2) l0 l1 x) (fun r => r = true) := by
    intro x
    rw [laws_FnStockOf.j0]
    refine Ex.ite (fun _ => Ex.ret rfl) (fun _ => Ex.bind (drawStockOf_ex (k + 1) l0 h0 (by omega)) (fun r hr => ?_))
    obtain ⟨w, rs⟩ := r
    obtain ⟨hw, hl, hs⟩ := hr
    dsimp only at hw hl hs
    dsimp only
    have hlen := stockOf_len w rs
    rw [stockOf_spec w rs (by omega) 4 hs (by omega) (k + 1) (by omega), stockOf_impl w rs (by omega) (k + 1) (by omega), Option.bind_some, Option.bind_some, if_neg (by simp), lnStock_refl _ _ (by omega) (k + 1) (by omega), Option.bind_some, if_pos rfl, if_neg (by omega)]
    exact stockOf_j1 k (by omega) l1 w hw rs hl _ (decide_eq_false (by omega)) hlen
  unfold laws_FnStockOf.f
  exact Ex.ite (fun _ => hj _) (fun _ => hj _)

end Go.Proofs.Ytmbdphefnalenaa.Pure
