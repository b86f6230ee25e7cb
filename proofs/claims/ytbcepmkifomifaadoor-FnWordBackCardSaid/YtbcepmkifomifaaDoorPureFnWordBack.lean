/- A word is read back from its text (P25): of every code, whatever is drawn, the law is true. Proved: the law's one pure statement. No condition. -/
import Derived.Test.YtbcepmkifomifaaDoorPureReadW
import Derived.Test.YtbcepmkifomifaaDoorZw0
namespace Go.Proofs.YtbcepmkifomifaaDoor.Pure
open Go.RowKit Go.Proofs.YtbcepmkifomifaaDoor.Print Go.Proofs.YtbcepmkifomifaaDoorW.PrintWords Go.Proofs.YtbcepmkifomifaaDoorW.PrintLast

theorem drawWordText_ex (k : Nat) (l : List Int) (h : ∀ x ∈ l, (Lit.int .u8 x).wf = true) (hk : 3 ≤ k) : Ex (spec_DrawWordText.f k l) (fun _ => True) := by
  unfold spec_DrawWordText.f
  refine Ex.bind (open_ex l h) (fun r hr => ?_)
  refine Ex.bind (l71Word_ex k r.1 hr.1 _ (by omega) (by omega) (by omega)) (fun s hs => ?_)
  exact Ex.ret trivial
theorem FnWordBack : laws_FnWordBack.Pure := by
  intro l0 _ _ h0
  refine ⟨30, Ex.some_ ?_⟩
  unfold laws_FnWordBack.f
  refine Ex.ite (fun _ => Ex.ret rfl) (fun _ => ?_)
  refine Ex.bind (drawWordText_ex 30 l0 h0 (by omega)) (fun r _ => ?_)
  obtain ⟨a, b, c, d⟩ := r
  simp only [wordText_impl, wordText_spec 30 (by omega), Option.bind_some]
  rw [if_pos trivial]
  simp only [laws_FnWordBack.j0, wordText_spec 29 (by omega), Option.bind_some]
  refine Ex.ite (fun _ => Ex.ret (by simp)) (fun hn => ?_)
  have hn : ¬ (wText a b c d).toList = [] := by simpa using hn
  rw [wText_empty] at hn
  have hB : wordB a b c d = true := by simpa using hn
  have e : wText a b c d = wT a b c d := by unfold wText; rw [if_pos hB]
  rw [e, at_rounds (g := fun k => impl_WordRead.f k (wT a b c d)) (fun k => impl_WordRead.mono _ k) (show 3 ≤ 29 by omega) (word_read hB).1]
  simp only [Option.bind_some, wordOk_impl, hB]
  simp
  exact Ex.ret rfl

end Go.Proofs.YtbcepmkifomifaaDoor.Pure
