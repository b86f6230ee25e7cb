/- The pure side of new houses: HouseNew, of the program and of the reference, is one. -/
import Derived.Test.YtjccnaklodbbfaaPureStockDo
import Derived.Test.YtjccnaklodbbfaaZd0
namespace Go.Proofs.Ytjccnaklodbbfaa.Pure
open Go.RowKit Go.Proofs.Ytjccnaklodbbfaa.Print Go.Proofs.YtjccnaklodbbfaaW.PrintWords Go.Proofs.YtjccnaklodbbfaaW.PrintLast

def houseNewV (h w : Int) : Int × Bool × Int × List S62 × Int × Bool := if (1 ≤ h ∧ h ≤ 3) ∧ (0 ≤ w ∧ w ≤ 9) then (h, true, w, [], 0, true) else (0, false, 0, [], 0, false)
theorem houseNew_impl (h w : Int) : impl_HouseNew.f h w = some (houseNewV h w) := by
  unfold impl_HouseNew.f impl_isHouse.f houseNewV
  simp only [in_impl, Option.bind_some, decide_eq_true_eq]
  by_cases g : 1 ≤ h ∧ h ≤ 3
  · rw [if_pos g]
    by_cases g2 : 0 ≤ w ∧ w ≤ 9
    · rw [if_pos g2, if_pos ⟨g, g2⟩]
    · rw [if_neg g2, if_neg (fun x => g2 x.2)]
  · rw [if_neg g, if_neg (fun x => g x.1)]
theorem houseNew_spec (h w : Int) : spec_HouseNew.f h w = some (houseNewV h w) := by
  unfold spec_HouseNew.f houseNewV
  rw [stockNew_spec]
  simp only [in_spec, Option.bind_some, decide_eq_true_eq]
  by_cases g : 1 ≤ h ∧ h ≤ 3
  · by_cases g2 : 0 ≤ w ∧ w ≤ 9 <;> simp [g, g2]
  · rw [if_neg g, if_neg (fun x => g x.1)]

end Go.Proofs.Ytjccnaklodbbfaa.Pure
