/- The pure side of the laws' own helpers for holds and stocks: compared. -/
import Derived.Test.YtbomcadjkcmcgaaPureStock
import Derived.Test.YtbomcadjkcmcgaaZc2
namespace Go.Proofs.Ytbomcadjkcmcgaa.Pure
open Go.RowKit Go.Proofs.Ytbomcadjkcmcgaa.Print Go.Proofs.YtbomcadjkcmcgaaW.PrintWords Go.Proofs.YtbomcadjkcmcgaaW.PrintLast

theorem eqHoldS_loop (l : List S72) (hl : l.length ≤ 1048576) : ∀ (d k i : Nat), i + d = l.length → d < k → laws_eqHoldS.l0 k l l i = some true := by
  intro d
  induction d with
  | zero =>
    intro k i hi hk
    obtain ⟨k, rfl⟩ := ok_fuel (show 0 < k by omega)
    simp only [laws_eqHoldS.l0]
    rw [if_neg (by omega)]
  | succ d ih =>
    intro k i hi hk
    obtain ⟨k, rfl⟩ := ok_fuel (show 0 < k by omega)
    simp only [laws_eqHoldS.l0, laws_eqHold.f, if_true, Option.bind_some]
    rw [if_pos (by omega), if_pos (by omega), if_pos (by omega), w64 (by omega) (by omega), i1]
    exact ih k (i + 1) (by omega) (by omega)
theorem eqStock_refl (a : Int) (l : List S72) (hl : l.length ≤ 1048576) (k : Nat) (hk : l.length < k) : laws_eqStock.f k a l a l = some true := by
  unfold laws_eqStock.f laws_eqHoldS.f
  have h0 : laws_eqHoldS.l0 k l l 0 = some true := eqHoldS_loop l hl l.length k 0 (by omega) hk
  rw [if_pos rfl, if_pos rfl, h0]
  rfl

end Go.Proofs.Ytbomcadjkcmcgaa.Pure
