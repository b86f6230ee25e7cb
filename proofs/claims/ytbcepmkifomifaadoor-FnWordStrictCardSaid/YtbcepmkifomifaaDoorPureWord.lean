/- The pure side of words: WordOk, of the program and of the reference, is one test; a word that is drawn. -/
import Derived.Test.YtbcepmkifomifaaDoorPureBase
import Derived.Test.YtbcepmkifomifaaDoorPurePick
import Derived.Test.YtbcepmkifomifaaDoorZp2
import Derived.Test.YtbcepmkifomifaaDoorZp0
import Derived.Test.YtbcepmkifomifaaDoorZa0
namespace Go.Proofs.YtbcepmkifomifaaDoor.Pure
open Go.RowKit Go.Proofs.YtbcepmkifomifaaDoor.Print Go.Proofs.YtbcepmkifomifaaDoorW.PrintWords Go.Proofs.YtbcepmkifomifaaDoorW.PrintLast

def wordB (a b c d : Int) : Bool := decide (1 ≤ b ∧ b ≤ 3 ∧ 1 ≤ c ∧ c ≤ 6 ∧ 1 ≤ a ∧ a ≤ 7 ∧ (a = 1 → 1 ≤ d ∧ d ≤ 3) ∧ (a ≠ 1 → d = 0))
theorem isHouse_impl (a : Int) : impl_isHouse.f a = some (decide (1 ≤ a ∧ a ≤ 3)) := by unfold impl_isHouse.f; rw [in_impl]; rfl
theorem isTripW_impl (a : Int) : impl_isTrip.f a = some (decide (1 ≤ a ∧ a ≤ 6)) := by unfold impl_isTrip.f; rw [in_impl]; rfl
theorem wordOk_impl (a b c d : Int) : impl_WordOk.f a b c d = some (wordB a b c d) := by
  unfold impl_WordOk.f wordB
  simp only [in_impl, isTripW_impl, isHouse_impl, Option.bind_some, decide_eq_true_eq]
  repeat' split
  all_goals (congr 1; first | (simp; omega) | (simp only [eq_comm (a := true), eq_comm (a := false), decide_eq_true_eq, decide_eq_false_iff_not]; omega) | (rw [Bool.eq_iff_iff]; simp; omega))
theorem wordOk_spec (k : Nat) (hk : 1 ≤ k) (a b c d : Int) : spec_WordOk.f k a b c d = some (wordB a b c d) := by
  obtain ⟨k, rfl⟩ : ∃ m, k = m + 1 := ⟨k - 1, by omega⟩
  unfold spec_WordOk.f wordB
  simp only [in_spec, spec_WordOk.j0, Option.bind_some, decide_eq_true_eq]
  repeat' split
  all_goals (congr 1; first | (simp; omega) | (rw [Bool.eq_iff_iff]; simp at *; done) | (rw [Bool.eq_iff_iff]; simp at *; omega))
/-- A word that is drawn, and the place behind it. -/
theorem l71Word_ex (k : Nat) (b : List Int) (hb : Code b) (p : Int) (hp : 0 ≤ p) (hp2 : p ≤ 1000000) (hk : 2 ≤ k) :
    Ex (spec_l71Word.f k b p) (fun r => 0 ≤ r.2.2.2.2 ∧ r.2.2.2.2 ≤ p + 6) := by
  obtain ⟨k, rfl⟩ : ∃ m, k = m + 1 := ⟨k - 1, by omega⟩
  unfold spec_l71Word.f
  refine Ex.bind (pick_ex _ b hb _ _ (by omega) (by omega) (by omega) (by omega) (by omega)) (fun r1 h1 => ?_)
  refine Ex.bind (pick_ex _ b hb _ _ (by omega) (by omega) (by omega) (by omega) (by omega)) (fun r2 h2 => ?_)
  refine Ex.bind (pick_ex _ b hb _ _ (by omega) (by omega) (by omega) (by omega) (by omega)) (fun r3 h3 => ?_)
  have key : ∀ (q x y z u : Int), 0 ≤ q → q ≤ p + 4 → Ex (spec_l71Word.j0 (k + 1) b q x y z u) (fun r => 0 ≤ r.2.2.2.2 ∧ r.2.2.2.2 ≤ p + 6) := by
    intro q x y z u h0 h4
    simp only [spec_l71Word.j0]
    refine Ex.bind (pick_ex _ b hb _ _ (by omega) (by omega) (by omega) (by omega) (by omega)) (fun s hs => ?_)
    refine Ex.ite (fun _ => ?_) (fun _ => Ex.ite (fun _ => ?_) (fun _ => Ex.ite (fun _ => ?_) (fun _ => Ex.ite (fun _ => ?_) (fun _ => Ex.ret (by dsimp only; omega)))))
    all_goals exact Ex.bind (pick_ex _ b hb _ _ (by omega) (by omega) (by omega) (by omega) (by omega)) (fun t ht => Ex.ret (by dsimp only; omega))
  refine Ex.ite (fun _ => Ex.bind (pick_ex _ b hb _ _ (by omega) (by omega) (by omega) (by omega) (by omega)) (fun r4 h4 => key _ _ _ _ _ (by omega) (by omega))) (fun _ => key _ _ _ _ _ (by omega) (by omega))

end Go.Proofs.YtbcepmkifomifaaDoor.Pure
