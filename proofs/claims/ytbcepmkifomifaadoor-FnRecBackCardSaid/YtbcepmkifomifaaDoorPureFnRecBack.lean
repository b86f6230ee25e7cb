/- A record is read back from its text (P1): of every code, whatever is drawn, the law is true. Proved: the law's one pure statement. No condition. -/
import Derived.Test.YtbcepmkifomifaaDoorPureReadR
import Derived.Test.YtbcepmkifomifaaDoorPureDrawRec
import Derived.Test.YtbcepmkifomifaaDoorPureLnInts
import Derived.Test.YtbcepmkifomifaaDoorZbb0
namespace Go.Proofs.YtbcepmkifomifaaDoor.Pure
open Go.RowKit Go.Proofs.YtbcepmkifomifaaDoor.Print Go.Proofs.YtbcepmkifomifaaDoorW.PrintWords Go.Proofs.YtbcepmkifomifaaDoorW.PrintLast

theorem drawRecText_ex (k : Nat) (l : List Int) (h : ∀ x ∈ l, (Lit.int .u8 x).wf = true) (hk : 3 ≤ k) : Ex (spec_DrawRecText.f k l) (fun r => r.2.2.length ≤ 4) := by
  unfold spec_DrawRecText.f
  refine Ex.bind (open_ex l h) (fun r hr => ?_)
  refine Ex.bind (l71RecV_ex k r.1 hr.1 _ (by omega) (by omega) hk) (fun s hs => ?_)
  exact Ex.ret hs.1
theorem FnRecBack : laws_FnRecBack.Pure := by
  intro l0 _ _ h0
  refine ⟨30, Ex.some_ ?_⟩
  unfold laws_FnRecBack.f
  refine Ex.ite (fun _ => Ex.ret rfl) (fun _ => ?_)
  refine Ex.bind (drawRecText_ex 30 l0 h0 (by omega)) (fun r hr => ?_)
  obtain ⟨a, b, m⟩ := r
  dsimp only at hr
  simp only [recText_impl, recText_spec 30 (by omega) a b m (by omega) (by omega), Option.bind_some]
  rw [if_pos trivial]
  simp only [laws_FnRecBack.j0, recText_spec 29 (by omega) a b m (by omega) (by omega), Option.bind_some]
  refine Ex.ite (fun _ => Ex.ret (by simp)) (fun hn => ?_)
  have hn : ¬ (rText a b m).toList = [] := by simpa using hn
  rw [rText_empty] at hn
  have hB : recB a b m = true := by simpa using hn
  have e : rText a b m = rT a b m := by unfold rText; rw [if_pos hB]
  rw [e, at_rounds (g := fun k => impl_RecRead.f k (rT a b m)) (fun k => impl_RecRead.mono _ k) (show 3 ≤ 29 by omega) (rec_read hB).1]
  simp only [Option.bind_some, recOk_impl, hB, lnRec_eq 29 a b m a b m (by omega) (by omega)]
  simp
  exact Ex.ret rfl

end Go.Proofs.YtbcepmkifomifaaDoor.Pure
