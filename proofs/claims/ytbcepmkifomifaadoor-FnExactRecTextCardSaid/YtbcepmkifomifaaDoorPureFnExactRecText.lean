/- The program's RecText returns what the reference's returns, for all arguments: the law's one pure statement. No condition. -/
import Derived.Test.YtbcepmkifomifaaDoorPureTextR
import Derived.Test.YtbcepmkifomifaaDoorPureInts
import Derived.Test.YtbcepmkifomifaaDoorPstFnExactRecText
namespace Go.Proofs.YtbcepmkifomifaaDoor.Pure
open Go.RowKit Go.Proofs.YtbcepmkifomifaaDoor.Print Go.Proofs.YtbcepmkifomifaaDoorW.PrintWords Go.Proofs.YtbcepmkifomifaaDoorW.PrintLast

theorem FnExactRecText : laws_FnExactRecText.Pure := by
  intro a b l _ _ hl
  refine ⟨1048577, ?_⟩
  unfold laws_FnExactRecText.f laws_szRec.f laws_toRec.f laws_eqRec.f
  rw [szIntS_eq l _ (by omega) (by omega) hl.1]
  by_cases h : (1048576 : Int) < l.length
  · rw [if_pos h]; rfl
  · rw [if_neg h]
    simp only [Option.bind_some]
    rw [if_neg (by omega)]
    simp only [Option.bind_some]
    rw [if_neg (by omega), toIntS_eq l (by omega) _ (by omega)]
    simp only [Option.bind_some, recText_impl, recText_spec 1048577 (by omega) a b l (by omega) (by omega), eqIntS_eq l l (by omega) _ (show l.length < 1048577 by omega)]
    simp

end Go.Proofs.YtbcepmkifomifaaDoor.Pure
