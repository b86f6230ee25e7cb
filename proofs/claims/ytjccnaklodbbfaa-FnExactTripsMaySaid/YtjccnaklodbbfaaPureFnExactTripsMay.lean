/- The program's TripsMay returns what the reference's returns, for all arguments: the law's one pure statement. No condition. -/
import Derived.Test.YtjccnaklodbbfaaPureTrips
import Derived.Test.YtjccnaklodbbfaaPureTripsMay
import Derived.Test.YtjccnaklodbbfaaPstFnExactTripsMay
namespace Go.Proofs.Ytjccnaklodbbfaa.Pure
open Go.RowKit Go.Proofs.Ytjccnaklodbbfaa.Print Go.Proofs.YtjccnaklodbbfaaW.PrintWords Go.Proofs.YtjccnaklodbbfaaW.PrintLast

theorem FnExactTripsMay : laws_FnExactTripsMay.Pure := by
  intro l c t m hl _ _ hm
  refine ⟨8000000, Ex.some_ ?_⟩
  generalize hk : 8000000 = k
  unfold laws_FnExactTripsMay.f laws_szRec.f laws_toRec.f laws_eqRec.f
  refine Ex.bind (szTripS_ex l hl.1 (fun x hx => (hl.2 x hx).1.1) k (by omega)) (fun r hr => Ex.ite (fun _ => Ex.ret rfl) (fun h => ?_))
  obtain ⟨h1, h2⟩ := hr.2 (by omega)
  have h3 := hr.1
  rw [szIntS_eq m _ (by omega) (by omega) hm.1]
  by_cases h4 : r < m.length
  · rw [if_pos h4]; exact ⟨true, rfl, rfl⟩
  · rw [if_neg h4, Option.bind_some, if_neg (by omega), Option.bind_some, if_neg (by omega)]
    have hn : (l.map cvT).length ≤ 1048576 := by rw [List.length_map]; omega
    have hM : ∀ x ∈ l.map cvT, x.f0.length ≤ 1048576 := by
      intro x hx
      obtain ⟨y, hy, rfl⟩ := List.mem_map.mp hx
      exact h2 y hy
    rw [toTripS_eq l h1 h2 k (by omega), toIntS_eq m (by omega) k (by omega)]
    simp only [Option.bind_some]
    rw [tripsMay_spec _ c t m hn 1048576 hM (by omega) (by omega) k (by omega), tripsMay_impl _ c t m k (by omega), eqTripS_refl _ hn hM k (by omega), eqIntS_eq m m (by omega) k (by omega)]
    exact ⟨true, by simp, rfl⟩

end Go.Proofs.Ytjccnaklodbbfaa.Pure
