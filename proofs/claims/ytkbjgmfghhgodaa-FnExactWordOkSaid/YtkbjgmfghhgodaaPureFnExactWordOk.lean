/- The program's WordOk returns what the reference's returns, for all arguments: the law's one pure statement. No condition. -/
import Derived.Test.YtkbjgmfghhgodaaPureWord
import Derived.Test.YtkbjgmfghhgodaaPstFnExactWordOk
namespace Go.Proofs.Ytkbjgmfghhgodaa.Pure
open Go.RowKit Go.Proofs.Ytkbjgmfghhgodaa.Print Go.Proofs.YtkbjgmfghhgodaaW.PrintWords Go.Proofs.YtkbjgmfghhgodaaW.PrintLast

theorem FnExactWordOk : laws_FnExactWordOk.Pure := by
  intro a b c d _ _ _ _
  refine ⟨1, ?_⟩
  unfold laws_FnExactWordOk.f laws_toWord.f
  simp only [Option.bind_some, wordOk_impl, wordOk_spec 1 (by omega)]
  simp

end Go.Proofs.Ytkbjgmfghhgodaa.Pure
