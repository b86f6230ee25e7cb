/- The program's LogOk returns what the reference's returns, for all arguments: the law's one pure statement. No condition. -/
import Derived.Test.YtkbjgmfghhgodaaPureLogs
import Derived.Test.YtkbjgmfghhgodaaPstFnExactLogOk
namespace Go.Proofs.Ytkbjgmfghhgodaa.Pure
open Go.RowKit Go.Proofs.Ytkbjgmfghhgodaa.Print Go.Proofs.YtkbjgmfghhgodaaW.PrintWords Go.Proofs.YtkbjgmfghhgodaaW.PrintLast

theorem FnExactLogOk : laws_FnExactLogOk.Pure := by
  intro l c hl _
  refine ⟨4000000, Ex.some_ ?_⟩
  generalize hk : 4000000 = k
  unfold laws_FnExactLogOk.f
  refine Ex.bind (szLog_ex l c hl.1 (fun x hx => (hl.2 x hx).2.2.1) k (by omega)) (fun r hr => Ex.ite (fun _ => Ex.ret rfl) (fun h => ?_))
  obtain ⟨h1, h2⟩ := hr (by omega)
  have hm : (l.map cvR).length ≤ 1048576 := by rw [List.length_map]; omega
  have hM : ∀ x ∈ l.map cvR, x.f2.length ≤ 1048576 := by
    intro x hx
    obtain ⟨y, hy, rfl⟩ := List.mem_map.mp hx
    exact h2 y hy
  rw [toLog_eq l c h1 h2 k (by omega)]
  simp only [Option.bind_some]
  rw [logOk_spec _ c hm 1048576 hM (by omega) k (by omega), logOk_impl, eqLog_refl _ c hm hM k (by omega)]
  exact ⟨true, by simp, rfl⟩

end Go.Proofs.Ytkbjgmfghhgodaa.Pure
