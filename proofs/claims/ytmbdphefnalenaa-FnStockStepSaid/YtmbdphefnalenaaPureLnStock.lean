/- Two stocks that are the same are told the same by the law's own test. -/
import Derived.Test.YtmbdphefnalenaaPureStockDo
import Derived.Test.YtmbdphefnalenaaZa13
namespace Go.Proofs.Ytmbdphefnalenaa.Pure
open Go.RowKit Go.Proofs.Ytmbdphefnalenaa.Print Go.Proofs.YtmbdphefnalenaaW.PrintWords Go.Proofs.YtmbdphefnalenaaW.PrintLast

theorem lnStock_loop (a : Int) (l : List S49) (hl : l.length ≤ 1048576) : ∀ (d k i : Nat), i + d = l.length → d < k → laws_lnStock.l0 k i a l a l = some true := by
  intro d
  induction d with
  | zero =>
    intro k i hi hk
    obtain ⟨k, rfl⟩ := ok_fuel (show 0 < k by omega)
    simp only [laws_lnStock.l0]
    rw [if_neg (by omega)]
  | succ d ih =>
    intro k i hi hk
    obtain ⟨k, rfl⟩ := ok_fuel (show 0 < k by omega)
    simp only [laws_lnStock.l0]
    rw [if_pos (by omega), if_pos (by omega), if_pos (by omega), w64 (by omega) (by omega), i1]
    simp only [beq_self_eq_true, Bool.not_true, Bool.or_self]
    rw [if_neg (by simp)]
    exact ih k (i + 1) (by omega) (by omega)
theorem lnStock_refl (a : Int) (l : List S49) (hl : l.length ≤ 1048576) (k : Nat) (hk : l.length + 1 < k) : laws_lnStock.f k a l a l = some true := by
  obtain ⟨k, rfl⟩ := ok_fuel (show 0 < k by omega)
  unfold laws_lnStock.f
  rw [if_pos rfl]
  simp only [laws_lnStock.j0, bne_self_eq_false]
  rw [if_neg (by simp)]
  exact lnStock_loop a l hl l.length k 0 (by omega) (by omega)

end Go.Proofs.Ytmbdphefnalenaa.Pure
