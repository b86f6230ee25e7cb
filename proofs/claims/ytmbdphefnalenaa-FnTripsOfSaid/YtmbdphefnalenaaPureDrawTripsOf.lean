/- Records of trips that are drawn: the draw ends; what is drawn is short. -/
import Derived.Test.YtmbdphefnalenaaPureDrawTrips
import Derived.Test.YtmbdphefnalenaaZc4
namespace Go.Proofs.Ytmbdphefnalenaa.Pure
open Go.RowKit Go.Proofs.Ytmbdphefnalenaa.Print Go.Proofs.YtmbdphefnalenaaW.PrintWords Go.Proofs.YtmbdphefnalenaaW.PrintLast

theorem drawTripsOf_ex (k : Nat) (l : List Int) (h : ∀ x ∈ l, (Lit.int .u8 x).wf = true) (hk : 4300 ≤ k) : Ex (spec_DrawTripsOf.f k l) (fun r => r.length ≤ 14 ∧ ShortR r) := by
  unfold spec_DrawTripsOf.f
  refine Ex.bind (open_ex l h) (fun r hr => ?_)
  refine Ex.bind (l71Trips_ex k r.1 hr.1 _ (by omega) (by omega) (by omega)) (fun t ht => ?_)
  obtain ⟨g1, g2, _, g3, g4⟩ := ht
  refine Ex.bind (pick_ex _ r.1 hr.1 _ _ (by omega) (by omega) (by omega) (by omega) (by omega)) (fun r1 h1 => ?_)
  refine Ex.ite (fun _ => ?_) (fun _ => Ex.ret ⟨by omega, g2⟩)
  refine Ex.bind (l71RecV_ex _ r.1 hr.1 _ (by omega) (by omega) (by omega)) (fun r2 h2 => ?_)
  exact Ex.ite (fun _ => Ex.ret ⟨by simp only [List.length_append, List.length_singleton]; omega, short_snoc g2 h2.1⟩) (fun h => by omega)

end Go.Proofs.Ytmbdphefnalenaa.Pure
