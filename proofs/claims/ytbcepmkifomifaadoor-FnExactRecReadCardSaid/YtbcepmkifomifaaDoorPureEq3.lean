/- A short record is the same as itself. -/
import Derived.Test.YtbcepmkifomifaaDoorPureBase
import Derived.Test.YtbcepmkifomifaaDoorZl0
namespace Go.Proofs.YtbcepmkifomifaaDoor.Pure
open Go.RowKit Go.Proofs.YtbcepmkifomifaaDoor.Print Go.Proofs.YtbcepmkifomifaaDoorW.PrintWords Go.Proofs.YtbcepmkifomifaaDoorW.PrintLast

theorem eqInts3 (m : List Int) (hm : m.length ≤ 3) : laws_eqIntS.f 10 m m = some true := by
  match m, hm with
  | [], _ => rfl
  | [x], _ => simp [laws_eqIntS.f, laws_eqIntS.l0, rd, wrap64]
  | [x, y], _ => simp [laws_eqIntS.f, laws_eqIntS.l0, rd, wrap64]
  | [x, y, z], _ => simp [laws_eqIntS.f, laws_eqIntS.l0, rd, wrap64]
theorem eqRec3 (k : Nat) (hk : 10 ≤ k) (a b : Int) (m : List Int) (hm : m.length ≤ 3) : laws_eqRec.f k a b m a b m = some true := by
  unfold laws_eqRec.f
  rw [if_pos rfl, if_pos rfl, at_rounds (g := fun k => laws_eqIntS.f k m m) (fun k => laws_eqIntS.mono m m k) hk (eqInts3 m hm)]
  rfl

end Go.Proofs.YtbcepmkifomifaaDoor.Pure
