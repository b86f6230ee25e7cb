/- What trips may, told by their states: of every code the law is true. Proved: the law's one pure statement. No condition. -/
import Derived.Test.YtjccnaklodbbfaaPureDrawTripsMay
import Derived.Test.YtjccnaklodbbfaaZdb0
namespace Go.Proofs.Ytjccnaklodbbfaa.Pure
open Go.RowKit Go.Proofs.Ytjccnaklodbbfaa.Print Go.Proofs.YtjccnaklodbbfaaW.PrintWords Go.Proofs.YtjccnaklodbbfaaW.PrintLast

theorem tripsMay_j1 (k : Nat) (hk : 10 ≤ k) (l : List S73) (c t : Int) (m : List Int) (hl : l.length ≤ 6) (s : Int) (hs : s = stT l t) : Ex (laws_FnTripsMay.j1 k l (mayT l c t) s c t m) (fun r => r = true) := by
  obtain ⟨k, rfl⟩ := tfuel (show 0 < k by omega)
  obtain ⟨k, rfl⟩ := tfuel (show 0 < k by omega)
  subst hs
  simp only [laws_FnTripsMay.j1, laws_FnTripsMay.j2]
  unfold mayT
  by_cases e4 : c = 4
  · rw [if_pos e4, if_pos e4, w64 (by omega) (by omega)]
    exact ⟨true, by by_cases g : t = (l.length : Int) + 1 <;> simp [g], rfl⟩
  · rw [if_neg e4, if_neg e4]
    by_cases e5 : c = 5
    · subst e5
      simp only [if_true, beq_self_eq_true, true_or]
      exact ⟨true, by by_cases g : stT l t = 1 <;> simp [g], rfl⟩
    · rw [if_neg e5]
      by_cases e6 : c = 6
      · subst e6
        simp only [if_true, beq_self_eq_true, or_true]
        exact ⟨true, by by_cases g : stT l t = 1 <;> simp [g], rfl⟩
      · have e56 : ¬ (c = 5 ∨ c = 6) := by omega
        rw [if_neg e56, if_neg (show ¬ (c == 6) = true by simpa using e6)]
        by_cases e7 : c = 7
        · rw [if_pos e7, if_pos e7]
          by_cases g : stT l t = 2
          · rw [if_pos g]; exact ⟨true, by simp [g], rfl⟩
          · rw [if_neg g]; exact ⟨true, by by_cases g3 : stT l t = 3 <;> simp [g, g3], rfl⟩
        · rw [if_neg e7, if_neg e7]
          exact ⟨true, rfl, rfl⟩
theorem tripsMay_j0 (k : Nat) (hk : 4000 ≤ k) (x : Bool) (l : List S73) (c t : Int) (m : List Int) (hl : l.length ≤ 8) (hs : ShortT l) (hm : m.length ≤ 4) (hx : x = true ∨ (x = false ∧ tripsB l = true ∧ recB c t m = true)) : Ex (laws_FnTripsMay.j0 k l (tripsMayB l c t m) x c t m) (fun r => r = true) := by
  obtain ⟨k, rfl⟩ := tfuel (show 0 < k by omega)
  simp only [laws_FnTripsMay.j0]
  rcases hx with hx | ⟨hx, hb, hr⟩
  · rw [if_pos hx, tripsMay_spec l c t m (by omega) 4 hs (by omega) (by omega) k (by omega)]
    exact ⟨true, by simp, rfl⟩
  · obtain ⟨g1, g2, g3, g4⟩ := trec_parts hr
    have h6 := (trips_parts hb).1
    have e : tripsMayB l c t m = mayT l c t := by unfold tripsMayB; rw [hb, hr]; simp
    rw [if_neg (by simp [hx]), e]
    refine Ex.ite (fun h => ?_) (fun h => ?_)
    · rw [w64 (n := t - 1) (by omega) (by omega), if_pos (by omega), if_pos (by omega)]
      exact tripsMay_j1 k (by omega) l c t m h6 _ (by unfold stT; rw [if_pos ⟨g3, h⟩])
    · exact tripsMay_j1 k (by omega) l c t m h6 _ (by unfold stT; rw [if_neg (by omega)])
theorem FnTripsMay : laws_FnTripsMay.Pure := by
  intro l0 _ _ h0
  refine ⟨5000, Ex.some_ ?_⟩
  generalize hk : 5000 = k
  unfold laws_FnTripsMay.f
  refine Ex.ite (fun _ => Ex.ret rfl) (fun _ => Ex.bind (drawTripsMay_ex k l0 h0 (by omega)) (fun r hr => ?_))
  obtain ⟨l, c, t, m⟩ := r
  obtain ⟨hl, hs, hm⟩ := hr
  dsimp only at hl hs hm
  dsimp only
  rw [tripsMay_impl l c t m k (by omega), tripsMay_spec l c t m (by omega) 4 hs (by omega) (by omega) k (by omega), tripsOk_spec l (by omega) 4 hs (by omega) k (by omega), recOk_spec c t m (by omega) k (by omega)]
  refine Ex.bindS (Ex.bindS (Ex.ite (fun h => by simp at h) (fun _ => Ex.bindS (Ex.ite (fun hb => Ex.bindS ?_) (fun _ => ?_)))))
  · by_cases hr : recB c t m = true
    · exact tripsMay_j0 k (by omega) _ l c t m hl hs hm (.inr ⟨by simp [hr], hb, hr⟩)
    · exact tripsMay_j0 k (by omega) _ l c t m hl hs hm (.inl (by simp [hr]))
  · exact tripsMay_j0 k (by omega) _ l c t m hl hs hm (.inl rfl)

end Go.Proofs.Ytjccnaklodbbfaa.Pure
