/- The program's WordText returns what the reference's returns, for all arguments: the law's one pure statement. No condition. -/
import Derived.Test.YtbcepmkifomifaaDoorPureTextW
import Derived.Test.YtbcepmkifomifaaDoorPstFnExactWordText
namespace Go.Proofs.YtbcepmkifomifaaDoor.Pure
open Go.RowKit Go.Proofs.YtbcepmkifomifaaDoor.Print Go.Proofs.YtbcepmkifomifaaDoorW.PrintWords Go.Proofs.YtbcepmkifomifaaDoorW.PrintLast

theorem FnExactWordText : laws_FnExactWordText.Pure := by
  intro a b c d _ _ _ _
  refine ⟨4, ?_⟩
  unfold laws_FnExactWordText.f laws_toWord.f
  simp only [Option.bind_some, wordText_spec 4 (Nat.le_refl _), wordText_impl]
  rw [if_pos trivial]

end Go.Proofs.YtbcepmkifomifaaDoor.Pure
