/- The laws' own equality of trips. -/
import Derived.Test.YtmbdphefnalenaaPureDrawTrips
import Derived.Test.YtmbdphefnalenaaZc7
namespace Go.Proofs.Ytmbdphefnalenaa.Pure
open Go.RowKit Go.Proofs.Ytmbdphefnalenaa.Print Go.Proofs.YtmbdphefnalenaaW.PrintWords Go.Proofs.YtmbdphefnalenaaW.PrintLast

theorem lnInts_refl (l : List Int) (hl : l.length ≤ 1000) (k : Nat) (hk : 1000 < k) : laws_lnInts.f k l l = some true := by
  have h : ∀ (d k i : Nat), i + d = l.length → d < k → laws_lnInts.l0 k l l i = some true := by
    intro d
    induction d with
    | zero =>
      intro k i hi hk
      obtain ⟨k, rfl⟩ := tfuel (show 0 < k by omega)
      rw [laws_lnInts.l0, if_neg (by omega)]
    | succ d ih =>
      intro k i hi hk
      obtain ⟨k, rfl⟩ := tfuel (show 0 < k by omega)
      rw [laws_lnInts.l0, if_pos (by omega), if_pos (by omega), if_pos (by omega), if_pos rfl, w64 (by omega) (by omega), ti1]
      exact ih k (i + 1) (by omega) (by omega)
  unfold laws_lnInts.f
  rw [if_pos rfl]
  exact h l.length k 0 (by omega) (by omega)
theorem lnTrips_refl (l : List S81) (hl : l.length ≤ 1000) (hs : ShortT l) (k : Nat) (hk : 2100 < k) : laws_lnTrips.f k l l = some true := by
  have h : ∀ (d k i : Nat), i + d = l.length → d + 1001 < k → laws_lnTrips.l0 k l l i = some true := by
    intro d
    induction d with
    | zero =>
      intro k i hi hk
      obtain ⟨k, rfl⟩ := tfuel (show 0 < k by omega)
      rw [laws_lnTrips.l0, if_neg (by omega)]
    | succ d ih =>
      intro k i hi hk
      obtain ⟨k, rfl⟩ := tfuel (show 0 < k by omega)
      have hil : i < l.length := by omega
      have hx := hs l[i] (List.getElem_mem hil)
      rw [laws_lnTrips.l0, if_pos (by omega), if_pos (by omega), if_pos (by omega), if_pos rfl, w64 (by omega) (by omega), ti1, rdT hil, lnInts_refl _ (by omega) k (by omega), Option.bind_some, if_pos rfl]
      exact ih k (i + 1) (by omega) (by omega)
  unfold laws_lnTrips.f
  rw [if_pos rfl]
  exact h l.length k 0 (by omega) (by omega)

end Go.Proofs.Ytmbdphefnalenaa.Pure
