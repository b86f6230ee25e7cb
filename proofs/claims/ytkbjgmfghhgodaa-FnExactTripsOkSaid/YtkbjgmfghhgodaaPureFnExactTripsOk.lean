/- The program's TripsOk returns what the reference's returns, for all arguments: the law's one pure statement. No condition. -/
import Derived.Test.YtkbjgmfghhgodaaPureTrips
import Derived.Test.YtkbjgmfghhgodaaPstFnExactTripsOk
namespace Go.Proofs.Ytkbjgmfghhgodaa.Pure
open Go.RowKit Go.Proofs.Ytkbjgmfghhgodaa.Print Go.Proofs.YtkbjgmfghhgodaaW.PrintWords Go.Proofs.YtkbjgmfghhgodaaW.PrintLast

theorem FnExactTripsOk : laws_FnExactTripsOk.Pure := by
  intro l hl
  refine ⟨4000000, Ex.some_ ?_⟩
  generalize hk : 4000000 = k
  unfold laws_FnExactTripsOk.f
  refine Ex.bind (szTripS_ex l hl.1 (fun x hx => (hl.2 x hx).1.1) k (by omega)) (fun r hr => Ex.ite (fun _ => Ex.ret rfl) (fun h => ?_))
  obtain ⟨h1, h2⟩ := hr (by omega)
  have hm : (l.map cvT).length ≤ 1048576 := by rw [List.length_map]; omega
  have hM : ∀ x ∈ l.map cvT, x.f0.length ≤ 1048576 := by
    intro x hx
    obtain ⟨y, hy, rfl⟩ := List.mem_map.mp hx
    exact h2 y hy
  rw [toTripS_eq l h1 h2 k (by omega)]
  simp only [Option.bind_some]
  rw [tripsOk_spec _ hm 1048576 hM (by omega) k (by omega), tripsOk_impl, eqTripS_refl _ hm hM k (by omega)]
  exact ⟨true, by simp, rfl⟩

end Go.Proofs.Ytkbjgmfghhgodaa.Pure
