/- As many trips are begun as there may be: of every code the law is true. Proved: the law's one pure statement. No condition. -/
import Derived.Test.YtjccnaklodbbfaaPureDrawTripsMay
import Derived.Test.YtjccnaklodbbfaaZcb0
namespace Go.Proofs.Ytjccnaklodbbfaa.Pure
open Go.RowKit Go.Proofs.Ytjccnaklodbbfaa.Print Go.Proofs.YtjccnaklodbbfaaW.PrintWords Go.Proofs.YtjccnaklodbbfaaW.PrintLast

theorem begin_may (l : List S73) (h : tripsB l = true) (t : Int) (h1 : 1 ≤ t) : tripsMayB l 4 t [1, 1, 1] = decide (t ≤ 6 ∧ t = l.length + 1) := by
  unfold tripsMayB recB mayT
  have e : manyB [1, 1, 1] = true := by decide
  rw [h, if_neg (by decide), if_pos rfl, if_pos rfl, e]
  by_cases g : t ≤ 6
  · have hp : (1 ≤ t ∧ t ≤ 6 ∧ (1 : Int) ≤ 4 ∧ (4 : Int) ≤ 7) := by omega
    rw [decide_eq_true hp]
    by_cases g2 : t = (l.length : Int) + 1 <;> simp [g, g2]
    omega
  · have hp : ¬ (1 ≤ t ∧ t ≤ 6 ∧ (1 : Int) ≤ 4 ∧ (4 : Int) ≤ 7) := by omega
    rw [decide_eq_false hp]
    simp; omega
theorem tripsBegin_j1 (k : Nat) (hk : 4000 ≤ k) (n : List Int) (x : Bool) (l : List S73) (c t : Int) (m : List Int) (hl : l.length ≤ 8) (hs : ShortT l) (hm : m.length ≤ 4) (hx : x = true ∨ (x = false ∧ tripsB l = true)) : Ex (laws_FnTripsBegin.j1 k n l (tripsMayB l c t m) x c t m) (fun r => r = true) := by
  obtain ⟨k, rfl⟩ := tfuel (show 0 < k by omega)
  simp only [laws_FnTripsBegin.j1]
  rcases hx with hx | ⟨hx, hb⟩
  · rw [if_pos hx, tripsMay_spec l c t m (by omega) 4 hs (by omega) (by omega) k (by omega)]
    exact ⟨true, by simp, rfl⟩
  · have h6 := (trips_parts hb).1
    have e0 : 0 ≤ (n.length : Int) % 6 := Int.emod_nonneg _ (by omega)
    have e1 : (n.length : Int) % 6 < 6 := Int.emod_lt_of_pos _ (by omega)
    generalize (n.length : Int) % 6 = q at *
    rw [if_neg (by simp [hx]), w64 (n := (l.length : Int) + 1) (by omega) (by omega), tripsMay_impl l _ _ _ k (by omega), tripsMay_impl l _ _ _ k (by omega), begin_may l hb _ (by omega), begin_may l hb _ (by omega)]
    refine Ex.bindS (Ex.ite (fun _ => Ex.bindS (Ex.ret ?_)) (fun h => ?_))
    · by_cases g : 1 + q = (l.length : Int) + 1
      · have g2 : 1 + q ≤ 6 := by omega
        rw [beq_iff_eq, decide_eq_true ⟨g2, g⟩]
        simp [g]
      · have g2 : ¬ (1 + q ≤ 6 ∧ 1 + q = (l.length : Int) + 1) := fun h => g h.2
        rw [beq_iff_eq, decide_eq_false g2]
        symm; simpa using g
    · exfalso
      apply h
      rw [beq_iff_eq]
      by_cases g : (l.length : Int) < 6
      · rw [decide_eq_true g, decide_eq_true (by omega)]
      · rw [decide_eq_false g, decide_eq_false (by omega)]
theorem FnTripsBegin : laws_FnTripsBegin.Pure := by
  intro l0 l1 _ _ h0 _ _ _
  refine ⟨5000, Ex.some_ ?_⟩
  generalize hk : 5000 = k
  have hj : ∀ c : Bool, Ex (laws_FnTripsBegin.j0 k l0 l1 c) (fun r => r = true) := by
    intro x
    obtain ⟨k, rfl⟩ := tfuel (show 0 < k by omega)
    simp only [laws_FnTripsBegin.j0]
    refine Ex.ite (fun _ => Ex.ret rfl) (fun _ => Ex.bind (drawTripsMay_ex k l0 h0 (by omega)) (fun r hr => ?_))
    obtain ⟨l, c, t, m⟩ := r
    obtain ⟨hl, hs, hm⟩ := hr
    dsimp only at hl hs hm
    dsimp only
    rw [tripsMay_impl l c t m k (by omega), tripsMay_spec l c t m (by omega) 4 hs (by omega) (by omega) k (by omega), tripsOk_spec l (by omega) 4 hs (by omega) k (by omega)]
    refine Ex.bindS (Ex.bindS (Ex.ite (fun h => by simp at h) (fun _ => Ex.bindS ?_)))
    by_cases hb : tripsB l = true
    · exact tripsBegin_j1 k (by omega) l1 _ l c t m hl hs hm (.inr ⟨by simp [hb], hb⟩)
    · exact tripsBegin_j1 k (by omega) l1 _ l c t m hl hs hm (.inl (by simp [hb]))
  unfold laws_FnTripsBegin.f
  exact Ex.ite (fun _ => hj _) (fun _ => hj _)

end Go.Proofs.Ytjccnaklodbbfaa.Pure
