/- The program's StockOf returns what the reference's returns, for all arguments; what it returns is its own: the law's one pure statement. No condition. -/
import Derived.Test.YtmbdphefnalenaaPureMarks
import Derived.Test.YtmbdphefnalenaaPureMarkRecs
import Derived.Test.YtmbdphefnalenaaPureStockOfSpec
import Derived.Test.YtmbdphefnalenaaPstFnExactStockOf
namespace Go.Proofs.Ytmbdphefnalenaa.Pure
open Go.RowKit Go.Proofs.Ytmbdphefnalenaa.Print Go.Proofs.YtmbdphefnalenaaW.PrintWords Go.Proofs.YtmbdphefnalenaaW.PrintLast

theorem stockOf_len (w : Int) (rs : List S32) : (stockOfV w rs).2.1.length ≤ 6 := by
  by_cases h : (stockOfV w rs).2.2 = true
  · have := (stock_parts (stockOf_well h).2.2).2.1; omega
  · rw [stockOf_fail (by simpa using h)]; simp
theorem exactOf_j1 (k : Nat) (hk : 7000000 ≤ k) (a : Int) (l : List S54) (hl : l.length ≤ 1048576) (hM : ∀ x ∈ l, x.f2.length ≤ 1048576) :
    Ex (laws_FnExactStockOf.j1 k a l (stockOfV a (l.map cvR)).2.2 false (stockOfV a (l.map cvR)).1 (stockOfV a (l.map cvR)).2.1 (stockOfV a (l.map cvR)).1 (stockOfV a (l.map cvR)).2.1) (fun r => r = true) := by
  have hn : (l.map cvR).length = l.length := by rw [List.length_map]
  have hd := stockOf_len a (l.map cvR)
  obtain ⟨k, rfl⟩ := ok_fuel (show 0 < k by omega)
  rw [laws_FnExactStockOf.j1, if_neg (by simp)]
  refine Ex.bind (markStock_ex _ _ 1 (by omega) (by omega) k (by omega)) (fun r hr => ?_)
  obtain ⟨h1, h2, h3⟩ := hr
  rw [heldStock_eq _ r.2 1 (by omega) (by omega) h3 k (by omega), h2, ← h1]
  refine Ex.bindS ?_
  rw [if_neg (by omega), if_pos rfl, toRecS_eq l hl hM k (by omega)]
  refine Ex.bindS ?_
  rw [stockOf_impl _ _ (by omega) k (by omega), Option.bind_some, eqStock_refl _ _ (by omega) k (by omega), Option.bind_some, if_pos rfl]
  obtain ⟨k, rfl⟩ := ok_fuel (show 0 < k by omega)
  rw [laws_FnExactStockOf.j2, if_neg (by simp), heldStock_eq _ r.2 1 (by omega) (by omega) h3 k (by omega), h2, ← h1, Option.bind_some, if_neg (by omega), if_pos rfl]
  exact ⟨true, rfl, rfl⟩
theorem exactOf_j0 (k : Nat) (hk : 7000001 ≤ k) (a : Int) (l : List S54) (hl : l.length ≤ 1048576) (hM : ∀ x ∈ l, x.f2.length ≤ 1048576) (x : Bool) (hx : x = false) :
    Ex (laws_FnExactStockOf.j0 k a l (stockOfV a (l.map cvR)).2.2 (l.map cvR) (stockOfV a (l.map cvR)).2.2 x (stockOfV a (l.map cvR)).1 (stockOfV a (l.map cvR)).2.1 (stockOfV a (l.map cvR)).1 (stockOfV a (l.map cvR)).2.1) (fun r => r = true) := by
  have hn : (l.map cvR).length = l.length := by rw [List.length_map]
  have hM2 : ∀ x ∈ l.map cvR, x.f2.length ≤ 1048576 := by
    intro x hx
    obtain ⟨y, hy, rfl⟩ := List.mem_map.mp hx
    exact hM y hy
  have hd := stockOf_len a (l.map cvR)
  obtain ⟨k, rfl⟩ := ok_fuel (show 0 < k by omega)
  subst hx
  rw [laws_FnExactStockOf.j0, if_neg (by simp), toRecS_eq l hl hM k (by omega)]
  refine Ex.bindS ?_
  rw [eqRecS_refl _ (by omega) hM2 k (by omega), Option.bind_some, if_pos rfl]
  refine Ex.bind (markRecS_ex (l.map cvR) 1 (by omega) hM2 (by omega) (by omega) k (by omega)) (fun r hr => ?_)
  rw [if_neg (by omega), eqStock_refl _ _ (by omega) k (by omega), Option.bind_some, if_pos rfl, bne_self_eq_false]
  exact exactOf_j1 k (by omega) a l hl hM
theorem FnExactStockOf : laws_FnExactStockOf.Pure := by
  intro a l _ hl
  refine ⟨8000000, Ex.some_ ?_⟩
  generalize hk : 8000000 = k
  unfold laws_FnExactStockOf.f
  refine Ex.bind (szRecS_ex l hl.1 (fun x hx => (hl.2 x hx).2.2.1) k (by omega)) (fun r hr => Ex.ite (fun _ => Ex.ret rfl) (fun h => ?_))
  obtain ⟨h1, h2⟩ := hr (by omega)
  have hn : (l.map cvR).length = l.length := by rw [List.length_map]
  have hM2 : ∀ x ∈ l.map cvR, x.f2.length ≤ 1048576 := by
    intro x hx
    obtain ⟨y, hy, rfl⟩ := List.mem_map.mp hx
    exact h2 y hy
  have hd := stockOf_len a (l.map cvR)
  rw [toRecS_eq l h1 h2 k (by omega), Option.bind_some, stockOf_spec a _ (by omega) 1048576 hM2 (by omega) k (by omega), Option.bind_some, Option.bind_some, stockOf_impl a _ (by omega) k (by omega), Option.bind_some, eqStock_refl _ _ (by omega) k (by omega), Option.bind_some, if_pos rfl]
  exact exactOf_j0 k (by omega) a l h1 h2 _ (bne_self_eq_false _)

end Go.Proofs.Ytmbdphefnalenaa.Pure
