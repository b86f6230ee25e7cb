/- Records that are drawn for a stock: the draw ends. -/
import Derived.Test.YtmbdphefnalenaaPureDrawStock
import Derived.Test.YtmbdphefnalenaaPureDrawRec
import Derived.Test.YtmbdphefnalenaaZd0
namespace Go.Proofs.Ytmbdphefnalenaa.Pure
open Go.RowKit Go.Proofs.Ytmbdphefnalenaa.Print Go.Proofs.YtmbdphefnalenaaW.PrintWords Go.Proofs.YtmbdphefnalenaaW.PrintLast

theorem drawStockOf_ex (k : Nat) (l : List Int) (h : ∀ x ∈ l, (Lit.int .u8 x).wf = true) (hk : 100 ≤ k) : Ex (spec_DrawStockOf.f k l) (fun r => (0 ≤ r.1 ∧ r.1 ≤ 9) ∧ r.2.length ≤ 20 ∧ ∀ x ∈ r.2, x.f2.length ≤ 4) := by
  unfold spec_DrawStockOf.f
  refine Ex.bind (open_ex l h) (fun r hr => ?_)
  refine Ex.bind (l71Recs_ex k r.1 hr.1 _ (by omega) (by omega) (by omega)) (fun s hs => ?_)
  obtain ⟨h1, h2, ⟨l', hf, _⟩, h3, h4⟩ := hs
  have hsm : ∀ x ∈ s.2.1, x.f2.length ≤ 4 := fun x hx => by have := (hf.2 x hx).1; omega
  refine Ex.bind (pick_ex _ r.1 hr.1 _ _ (by omega) (by omega) (by omega) (by omega) (by omega)) (fun t ht => ?_)
  refine Ex.ite (fun _ => Ex.bind (l71RecV_ex k r.1 hr.1 _ (by omega) (by omega) (by omega)) (fun q hq => Ex.ite (fun _ => Ex.ret ⟨by dsimp only; omega, by simp only [List.length_append, List.length_singleton]; omega, fun x hx => ?_⟩) (fun h => by omega))) (fun _ => Ex.ite (fun _ => Ex.bind (pick_ex _ r.1 hr.1 _ _ (by omega) (by omega) (by omega) (by omega) (by omega)) (fun u hu => Ex.ret ⟨by dsimp only; omega, by dsimp only; omega, hsm⟩)) (fun _ => Ex.ret ⟨by dsimp only; omega, by dsimp only; omega, hsm⟩))
  rcases List.mem_append.mp hx with g | g
  · exact hsm x g
  · simp at g; subst g; exact hq.1

end Go.Proofs.Ytmbdphefnalenaa.Pure
