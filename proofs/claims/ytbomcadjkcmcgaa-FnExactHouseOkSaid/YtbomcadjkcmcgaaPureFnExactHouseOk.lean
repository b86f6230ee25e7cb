/- The program's HouseOk returns what the reference's returns, for all arguments: the law's one pure statement. No condition. -/
import Derived.Test.YtbomcadjkcmcgaaPureLogs
import Derived.Test.YtbomcadjkcmcgaaPureLogSpec
import Derived.Test.YtbomcadjkcmcgaaPureStockOf
import Derived.Test.YtbomcadjkcmcgaaPstFnExactHouseOk
namespace Go.Proofs.Ytbomcadjkcmcgaa.Pure
open Go.RowKit Go.Proofs.Ytbomcadjkcmcgaa.Print Go.Proofs.YtbomcadjkcmcgaaW.PrintWords Go.Proofs.YtbomcadjkcmcgaaW.PrintLast

def houseB (h w : Int) (l : List S62) (f : Int) : Bool := decide (1 ≤ h ∧ h ≤ 3) && logB l f && (stockOfV w l).2.2
theorem FnExactHouseOk : laws_FnExactHouseOk.Pure := by
  intro h b w l f _ _ _ hl _
  refine ⟨8000000, Ex.some_ ?_⟩
  generalize hk : 8000000 = k
  unfold laws_FnExactHouseOk.f laws_szHouse.f laws_toHouse.f laws_eqHouse.f
  refine Ex.bind (P := fun r : Int => 0 ≤ r → l.length ≤ 1048576 ∧ ∀ x ∈ l, x.f2.length ≤ 1048576) (Ex.bind (szLog_ex l f hl.1 (fun x hx => (hl.2 x hx).2.2.1) k (by omega)) (fun r hr => Ex.ite (fun _ => Ex.ret (fun h => by omega)) (fun _ => Ex.ret hr))) (fun r hr => ?_)
  · refine Ex.ite (fun _ => Ex.ret rfl) (fun h0 => ?_)
    obtain ⟨h1, h2⟩ := hr (by omega)
    have hm : (l.map cvR).length ≤ 1048576 := by rw [List.length_map]; omega
    have hM : ∀ x ∈ l.map cvR, x.f2.length ≤ 1048576 := by
      intro x hx
      obtain ⟨y, hy, rfl⟩ := List.mem_map.mp hx
      exact h2 y hy
    rw [toLog_eq l f h1 h2 k (by omega)]
    simp only [Option.bind_some]
    have hsp : spec_HouseOk.f k h b w (l.map cvR) f = some (houseB h w (l.map cvR) f) := by
      unfold spec_HouseOk.f houseB
      rw [l2Of_eq w _ hm 1048576 hM (by omega) k (by omega), logOk_spec _ f hm 1048576 hM (by omega) k (by omega), in_spec]
      simp only [Option.bind_some]
      by_cases g : 1 ≤ h ∧ h ≤ 3
      · cases logB (l.map cvR) f <;> simp [g]
      · simp [g]
    have him : impl_HouseOk.f k h b w (l.map cvR) f = some (houseB h w (l.map cvR) f) := by
      unfold impl_HouseOk.f impl_isHouse.f houseB
      rw [in_impl, logOk_impl, stockOf_impl w _ hm k (by omega)]
      simp only [Option.bind_some]
      by_cases g : 1 ≤ h ∧ h ≤ 3
      · cases logB (l.map cvR) f <;> simp [g]
      · simp [g]
    rw [hsp, him, eqLog_refl _ f hm hM k (by omega)]
    exact ⟨true, by simp, rfl⟩

end Go.Proofs.Ytbomcadjkcmcgaa.Pure
