/- The program's RecRead returns what the reference's returns, for all arguments: the law's one pure statement. No condition. -/
import Derived.Test.YtbcepmkifomifaaDoorPureReadR
import Derived.Test.YtbcepmkifomifaaDoorPureMark3
import Derived.Test.YtbcepmkifomifaaDoorPureEq3
import Derived.Test.YtbcepmkifomifaaDoorZm1
namespace Go.Proofs.YtbcepmkifomifaaDoor.Pure
open Go.RowKit Go.Proofs.YtbcepmkifomifaaDoor.Print Go.Proofs.YtbcepmkifomifaaDoorW.PrintWords Go.Proofs.YtbcepmkifomifaaDoorW.PrintLast

theorem FnExactRecRead : laws_FnExactRecRead.Pure := by
  intro s _
  refine ⟨100, ?_⟩
  unfold laws_FnExactRecRead.f
  by_cases h : (s.size : Int) > 1048576
  · rw [if_pos h]
  · rw [if_neg h]
    obtain ⟨r, hg, e, e'⟩ := recRead_same 100 100 (by omega) (by omega) s (by omega)
    have hl := hg.len
    rw [e']
    simp only [Option.bind_some]
    rw [e]
    simp only [Option.bind_some, eqRec3 100 (by omega) _ _ _ hl]
    rw [if_pos trivial]
    have e2 := at_rounds (g := fun k => impl_RecRead.f k s) (fun k => impl_RecRead.mono s k) (show 3 ≤ 99 by omega) (show impl_RecRead.f 3 s = some r from by
      obtain ⟨q, hq, hq2⟩ := recRead_impl 3 (by omega) s (by omega)
      rw [hq, hg.one hq2])
    have hne : (r.2.2.2 != r.2.2.2) = false := by simp
    rw [hne]
    simp only [laws_FnExactRecRead.j0, markRec3 99 (by omega) _ _ _ hl, heldRec3 99 (by omega) _ _ _ hl, Option.bind_some]
    rw [if_neg (by decide), if_neg (by omega), if_pos trivial, e2]
    simp only [Option.bind_some, eqRec3 99 (by omega) _ _ _ hl]
    rw [if_pos trivial, hne]
    simp only [laws_FnExactRecRead.j1, heldRec3 98 (by omega) _ _ _ hl, Option.bind_some]
    rw [if_neg (by decide), if_neg (by omega), if_pos trivial]

end Go.Proofs.YtbcepmkifomifaaDoor.Pure
