/- Records that are drawn: the draw ends, and a record's list is short. -/
import Derived.Test.YtbcepmkifomifaaDoorPureBase
import Derived.Test.YtbcepmkifomifaaDoorPurePick
import Derived.Test.YtbcepmkifomifaaDoorZc0
import Derived.Test.YtbcepmkifomifaaDoorZc1
namespace Go.Proofs.YtbcepmkifomifaaDoor.Pure
open Go.RowKit Go.Proofs.YtbcepmkifomifaaDoor.Print Go.Proofs.YtbcepmkifomifaaDoorW.PrintWords Go.Proofs.YtbcepmkifomifaaDoorW.PrintLast

theorem l71Many_j0 (k : Nat) (b : List Int) (hb : Code b) (y : List Int) (p : Int) (hy : y.length = 3) (hp : 0 ≤ p) (hp2 : p ≤ 10000000) (hk : 2 ≤ k) :
    Ex (spec_l71Many.j0 k y b p) (fun r => r.1.length ≤ 3 ∧ 0 ≤ r.2 ∧ r.2 ≤ p + 3) := by
  obtain ⟨k, rfl⟩ : ∃ m, k = m + 1 := ⟨k - 1, by omega⟩
  simp only [spec_l71Many.j0]
  refine Ex.bind (pick_ex _ b hb _ _ (by omega) (by omega) (by omega) (by omega) (by omega)) (fun r1 h1 => ?_)
  refine Ex.ite (fun _ => ?_) (fun _ => Ex.ite (fun _ => Ex.ite (fun _ => Ex.ret ?_) (fun h => by omega)) (fun _ => Ex.ite (fun _ => Ex.ret ?_) (fun _ => Ex.ret ?_)))
  · refine Ex.bind (pick_ex _ b hb _ _ (by omega) (by omega) (by omega) (by omega) (by omega)) (fun r2 h2 => ?_)
    refine Ex.bindS ?_
    refine Ex.bind (pick_ex _ b hb _ _ (by omega) (by omega) (by omega) (by omega) (by omega)) (fun r3 h3 => ?_)
    refine Ex.ite (fun _ => Ex.ite (fun _ => Ex.ite (fun _ => Ex.ite (fun _ => Ex.ret ?_) (fun h => by omega)) (fun h => by omega)) (fun h => by simp at h; omega)) (fun h => by omega)
    refine ⟨?_, ?_, ?_⟩
    · dsimp only; rw [List.length_set]; omega
    · dsimp only; omega
    · dsimp only; omega
  · refine ⟨?_, ?_, ?_⟩
    · dsimp only; rw [List.length_drop]; omega
    · dsimp only; omega
    · dsimp only; omega
  · refine ⟨?_, ?_, ?_⟩
    · dsimp only; simp
    · dsimp only; omega
    · dsimp only; omega
  · refine ⟨?_, ?_, ?_⟩
    · dsimp only; omega
    · dsimp only; omega
    · dsimp only; omega
theorem l71Many_ex (k : Nat) (b : List Int) (hb : Code b) (p : Int) (hp : 0 ≤ p) (hp2 : p ≤ 1000000) (hk : 2 ≤ k) :
    Ex (spec_l71Many.f k b p) (fun r => r.1.length ≤ 3 ∧ 0 ≤ r.2 ∧ r.2 ≤ p + 7) := by
  unfold spec_l71Many.f
  refine Ex.bind (pick_ex _ b hb _ _ (by omega) (by omega) (by omega) (by omega) (by omega)) (fun r1 h1 => ?_)
  refine Ex.bind (pick_ex _ b hb _ _ (by omega) (by omega) (by omega) (by omega) (by omega)) (fun r2 h2 => ?_)
  refine Ex.bind (pick_ex _ b hb _ _ (by omega) (by omega) (by omega) (by omega) (by omega)) (fun r3 h3 => ?_)
  refine Ex.bindS ?_
  refine Ex.ite (fun _ => Ex.ite (fun _ => Ex.ite (fun _ => Ex.ite (fun _ => ?_) (fun _ => ?_)) (fun h => by simp at h)) (fun h => by simp at h)) (fun h => by simp at h)
  · refine Ex.bind (pick_ex _ b hb _ _ (by omega) (by omega) (by omega) (by omega) (by omega)) (fun r4 h4 => ?_)
    refine Ex.ite (fun _ => Ex.ite (fun _ => ?_) (fun h => by simp at h; omega)) (fun h => by omega)
    exact (l71Many_j0 k b hb _ _ (by simp) (by omega) (by omega) hk).mono (fun r h => by omega)
  · exact (l71Many_j0 k b hb _ _ (by simp) (by omega) (by omega) hk).mono (fun r h => by omega)
theorem l71Rec_ex (k : Nat) (b : List Int) (hb : Code b) (p : Int) (hp : 0 ≤ p) (hp2 : p ≤ 100000) (hk : 3 ≤ k) :
    Ex (spec_l71Rec.f k b p) (fun r => r.2.2.1.length ≤ 4 ∧ 0 ≤ r.2.2.2 ∧ r.2.2.2 ≤ p + 13) := by
  obtain ⟨k, rfl⟩ : ∃ m, k = m + 1 := ⟨k - 1, by omega⟩
  unfold spec_l71Rec.f
  refine Ex.bind (pick_ex _ b hb _ _ (by omega) (by omega) (by omega) (by omega) (by omega)) (fun r1 h1 => ?_)
  refine Ex.bind (pick_ex _ b hb _ _ (by omega) (by omega) (by omega) (by omega) (by omega)) (fun r2 h2 => ?_)
  have key : ∀ (q x y : Int) (m : List Int), m.length ≤ 3 → 0 ≤ q → q ≤ p + 10 → Ex (spec_l71Rec.j0 (k + 1) b q x y m) (fun r => r.2.2.1.length ≤ 4 ∧ 0 ≤ r.2.2.2 ∧ r.2.2.2 ≤ p + 13) := by
    intro q x y m hm h0 h4
    simp only [spec_l71Rec.j0]
    refine Ex.bind (pick_ex _ b hb _ _ (by omega) (by omega) (by omega) (by omega) (by omega)) (fun s hs => ?_)
    refine Ex.ite (fun _ => ?_) (fun _ => Ex.ite (fun _ => ?_) (fun _ => Ex.ite (fun _ => ?_) (fun _ => Ex.ret (by dsimp only; omega))))
    · exact Ex.bind (pick_ex _ b hb _ _ (by omega) (by omega) (by omega) (by omega) (by omega)) (fun t ht => Ex.ret (by dsimp only; omega))
    · refine Ex.bindS ?_
      refine Ex.bind (pick_ex _ b hb _ _ (by omega) (by omega) (by omega) (by omega) (by omega)) (fun t ht => ?_)
      exact Ex.ite (fun _ => Ex.ite (fun _ => Ex.ret (by dsimp only; omega)) (fun h => by simp at h; omega)) (fun h => by omega)
    · refine Ex.bind (pick_ex _ b hb _ _ (by omega) (by omega) (by omega) (by omega) (by omega)) (fun t ht => ?_)
      refine Ex.ite (fun _ => Ex.ret ?_) (fun h => by omega)
      refine ⟨?_, ?_, ?_⟩
      · dsimp only; rw [List.length_append]; simp; omega
      · dsimp only; omega
      · dsimp only; omega
  refine Ex.ite (fun _ => ?_) (fun _ => Ex.ite (fun _ => ?_) (fun _ => key _ _ _ _ (by simp) (by omega) (by omega)))
  · exact Ex.bind (pick_ex _ b hb _ _ (by omega) (by omega) (by omega) (by omega) (by omega)) (fun t ht => key _ _ _ _ (by simp) (by omega) (by omega))
  · exact Ex.bind (l71Many_ex _ b hb _ (by omega) (by omega) (by omega)) (fun t ht => key _ _ _ _ (by omega) (by omega) (by omega))
theorem l71RecV_ex (k : Nat) (b : List Int) (hb : Code b) (p : Int) (hp : 0 ≤ p) (hp2 : p ≤ 100000) (hk : 3 ≤ k) :
    Ex (spec_l71RecV.f k b p) (fun r => r.2.2.1.length ≤ 4 ∧ 0 ≤ r.2.2.2 ∧ r.2.2.2 ≤ p + 13) := l71Rec_ex k b hb p hp hp2 hk

end Go.Proofs.YtbcepmkifomifaaDoor.Pure
