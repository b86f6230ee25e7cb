/- The program's WordRead returns what the reference's returns, for all arguments: the law's one pure statement. No condition. -/
import Derived.Test.YtbcepmkifomifaaDoorPureReadW
import Derived.Test.YtbcepmkifomifaaDoorZz0
namespace Go.Proofs.YtbcepmkifomifaaDoor.Pure
open Go.RowKit Go.Proofs.YtbcepmkifomifaaDoor.Print Go.Proofs.YtbcepmkifomifaaDoorW.PrintWords Go.Proofs.YtbcepmkifomifaaDoorW.PrintLast

theorem FnExactWordRead : laws_FnExactWordRead.Pure := by
  intro s _
  refine ⟨30, ?_⟩
  unfold laws_FnExactWordRead.f
  by_cases h : (s.size : Int) > 1048576
  · rw [if_pos h]
  · rw [if_neg h]
    obtain ⟨r, _, e, e'⟩ := wordRead_same 30 30 (by omega) (by omega) s (by omega)
    rw [e']
    simp only [Option.bind_some]
    rw [e]
    unfold laws_eqWord.f
    simp

end Go.Proofs.YtbcepmkifomifaaDoor.Pure
