/- The program's constants are the reference's: the law's one pure statement. No condition. -/
import Derived.Test.YtkbjgmfghhgodaaPrint1
namespace Go.Proofs.Ytkbjgmfghhgodaa.Pure
open Go.RowKit Go.Proofs.Ytkbjgmfghhgodaa.Print

theorem FnExactConstants : laws_FnExactConstants.Pure := rfl

end Go.Proofs.Ytkbjgmfghhgodaa.Pure
