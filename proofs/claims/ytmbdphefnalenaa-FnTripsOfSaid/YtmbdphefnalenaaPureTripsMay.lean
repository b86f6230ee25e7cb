/- The pure side of what trips may: TripsMay, of the program and of the reference, is one. -/
import Derived.Test.YtmbdphefnalenaaPureTripsOk
import Derived.Test.YtmbdphefnalenaaZc5
import Derived.Test.YtmbdphefnalenaaZc1
namespace Go.Proofs.Ytmbdphefnalenaa.Pure
open Go.RowKit Go.Proofs.Ytmbdphefnalenaa.Print Go.Proofs.YtmbdphefnalenaaW.PrintWords Go.Proofs.YtmbdphefnalenaaW.PrintLast

/-- The state of trip t, 0 where there is none. -/
def stT (l : List S81) (t : Int) : Int := if 1 ≤ t ∧ t ≤ l.length then (rd_T81 l (t - 1)).f1 else 0
def mayT (l : List S81) (c t : Int) : Bool :=
  if c = 4 then decide (t = l.length + 1) else if c = 5 ∨ c = 6 then decide (stT l t = 1) else if c = 7 then decide (stT l t = 2 ∨ stT l t = 3) else false
def tripsMayB (l : List S81) (c t : Int) (m : List Int) : Bool := tripsB l && recB c t m && mayT l c t
theorem trec_parts {a b : Int} {m : List Int} (h : recB a b m = true) : 1 ≤ a ∧ a ≤ 7 ∧ 1 ≤ b ∧ b ≤ 6 := by
  unfold recB at h
  rw [Bool.and_eq_true, decide_eq_true_eq] at h
  obtain ⟨h1, h2⟩ := h
  exact ⟨by omega, by omega, by omega, by omega⟩
theorem l12May_eq (l : List S81) (c t : Int) (m : List Int) (hl : l.length ≤ 6) (ht : 1 ≤ t) (ht2 : t ≤ 6) (k : Nat) (hk : 1 ≤ k) : spec_l12May.f k l c t m = some (mayT l c t) := by
  obtain ⟨k, rfl⟩ := tfuel (show 0 < k by omega)
  unfold spec_l12May.f mayT stT
  simp only [spec_l12May.j0]
  rw [w64 (n := (l.length : Int) + 1) (by omega) (by omega), w64 (n := t - 1) (by omega) (by omega)]
  by_cases e4 : c = 4
  · rw [if_pos e4, if_pos e4]; rfl
  · rw [if_neg e4, if_neg e4]
    by_cases hg : t > l.length
    · have hn : ¬ (1 ≤ t ∧ t ≤ (l.length : Int)) := by omega
      rw [if_pos hg, if_neg hn]; simp
    · have hn : 1 ≤ t ∧ t ≤ (l.length : Int) := by omega
      rw [if_neg hg, if_pos (by omega), if_pos (by omega), if_pos hn]
      by_cases e5 : c = 5
      · subst e5; simp; rfl
      · by_cases e6 : c = 6
        · subst e6; simp; rfl
        · by_cases e7 : c = 7
          · subst e7
            by_cases g : (rd_T81 l (t - 1)).f1 = 2
            · simp [g]
            · simp [g]; rfl
          · simp [e5, e6, e7]
theorem tripsMay_spec (l : List S81) (c t : Int) (m : List Int) (hl : l.length ≤ 1048576) (M : Nat) (hM : ∀ x ∈ l, x.f0.length ≤ M) (hM2 : M ≤ 1048576) (hm : m.length ≤ 1048576) (k : Nat) (hk : l.length + M + m.length + 2 < k) : spec_TripsMay.f k l c t m = some (tripsMayB l c t m) := by
  unfold spec_TripsMay.f tripsMayB
  rw [tripsOk_spec l hl M hM (by omega) k (by omega), recOk_spec c t m (by omega) k (by omega)]
  simp only [Option.bind_some]
  by_cases hs : tripsB l = true
  · rw [if_pos hs, hs]
    by_cases hr : recB c t m = true
    · obtain ⟨h1, h2, h3, h4⟩ := trec_parts hr
      have h6 : l.length ≤ 6 := by unfold tripsB at hs; simp only [Bool.and_eq_true, decide_eq_true_eq] at hs; exact hs.1
      rw [if_pos hr, l12May_eq l c t m h6 h3 h4 k (by omega), hr]
      simp
    · rw [if_neg hr]; simp [hr]
  · rw [if_neg hs]; simp [hs]
theorem stateOf_eq (l : List S81) (t : Int) (hl : l.length ≤ 1048576) : impl_stateOf.f l t = some (stT l t) := by
  unfold impl_stateOf.f stT
  simp only [in_impl, Option.bind_some, decide_eq_true_eq]
  by_cases h : 1 ≤ t ∧ t ≤ (l.length : Int)
  · rw [if_pos h, if_pos h, w64 (by omega) (by omega), if_pos (by omega), if_pos (by omega)]
  · rw [if_neg h, if_neg h]
theorem tripsMay_impl (l : List S81) (c t : Int) (m : List Int) (k : Nat) (hk : 2 ≤ k) : impl_TripsMay.f k l c t m = some (tripsMayB l c t m) := by
  obtain ⟨k, rfl⟩ := tfuel (show 0 < k by omega)
  obtain ⟨k, rfl⟩ := tfuel (show 0 < k by omega)
  unfold impl_TripsMay.f tripsMayB
  rw [tripsOk_impl, recOk_impl]
  simp only [Option.bind_some, impl_TripsMay.j0, impl_TripsMay.j1]
  by_cases hs : tripsB l = true
  · have h6 : l.length ≤ 6 := by unfold tripsB at hs; simp only [Bool.and_eq_true, decide_eq_true_eq] at hs; exact hs.1
    rw [if_pos hs, hs, stateOf_eq l t (by omega), w64 (by omega) (by omega)]
    by_cases hr : recB c t m = true
    · rw [hr, if_neg (by simp)]
      simp only [Option.bind_some, Bool.true_and]
      unfold mayT
      by_cases e4 : c = 4
      · rw [if_pos e4, if_pos e4]; rfl
      · rw [if_neg e4, if_neg e4]
        by_cases e5 : c = 5
        · subst e5; simp; rfl
        · by_cases e6 : c = 6
          · subst e6; simp; rfl
          · by_cases e7 : c = 7
            · subst e7
              by_cases g : stT l t = 2
              · simp [g]
              · simp [g]; rfl
            · simp [e5, e6, e7]
    · rw [if_pos (by simpa using hr)]; simp [hr]
  · rw [if_neg hs]; simp [hs]

end Go.Proofs.Ytmbdphefnalenaa.Pure
