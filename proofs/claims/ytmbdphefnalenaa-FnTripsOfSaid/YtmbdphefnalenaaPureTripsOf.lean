/- The pure side of trips out of records: TripsOf, of the program and of the reference, is one. -/
import Derived.Test.YtmbdphefnalenaaPureTripsDo
import Derived.Test.YtmbdphefnalenaaZc7
import Derived.Test.YtmbdphefnalenaaZc4
namespace Go.Proofs.Ytmbdphefnalenaa.Pure
open Go.RowKit Go.Proofs.Ytmbdphefnalenaa.Print Go.Proofs.YtmbdphefnalenaaW.PrintWords Go.Proofs.YtmbdphefnalenaaW.PrintLast

theorem rdTR {l : List S32} {i : Nat} (h : i < l.length) : rd_T32 l (i : Nat) = l[i] := by
  simp [rd_T32, List.getD_eq_getElem?_getD, List.getElem?_eq_getElem h]
/-- The records, one behind the other. -/
def ofT : List S81 → List S32 → List S81 × Bool
  | l, [] => (l, true)
  | l, r :: rs => if (recB r.f0 r.f1 r.f2 && mayT l r.f0 r.f1) = true then ofT (doT l r.f0 r.f1 r.f2) rs else ([], false)
theorem ofT_well : ∀ (rs : List S32) (l : List S81), tripsB l = true → (ofT l rs).2 = true → tripsB (ofT l rs).1 = true := by
  intro rs
  induction rs with
  | nil => intro l h _; exact h
  | cons r rs ih =>
    intro l h hk
    simp only [ofT] at hk ⊢
    by_cases g : (recB r.f0 r.f1 r.f2 && mayT l r.f0 r.f1) = true
    · rw [if_pos g] at hk ⊢
      rw [Bool.and_eq_true] at g
      exact ih _ (doT_well h g.1 g.2) hk
    · rw [if_neg g] at hk; cases hk
theorem ofT_fail : ∀ (rs : List S32) (l : List S81), (ofT l rs).2 = false → ofT l rs = ([], false) := by
  intro rs
  induction rs with
  | nil => intro l h; cases h
  | cons r rs ih =>
    intro l h
    simp only [ofT] at h ⊢
    by_cases g : (recB r.f0 r.f1 r.f2 && mayT l r.f0 r.f1) = true
    · rw [if_pos g] at h ⊢; exact ih _ h
    · rw [if_neg g]
theorem ofT_append (ys : List S32) : ∀ (xs : List S32) (l : List S81), (ofT l xs).2 = true → ofT l (xs ++ ys) = ofT (ofT l xs).1 ys := by
  intro xs
  induction xs with
  | nil => intro l _; rfl
  | cons x xs ih =>
    intro l h
    rw [List.cons_append]
    simp only [ofT] at h ⊢
    by_cases g : (recB x.f0 x.f1 x.f2 && mayT l x.f0 x.f1) = true
    · rw [if_pos g] at h ⊢
      rw [if_pos g]
      exact ih _ h
    · rw [if_neg g] at h; cases h
theorem ofT_append_no (ys : List S32) : ∀ (xs : List S32) (l : List S81), (ofT l xs).2 = false → ofT l (xs ++ ys) = ([], false) := by
  intro xs
  induction xs with
  | nil => intro l h; cases h
  | cons x xs ih =>
    intro l h
    rw [List.cons_append]
    simp only [ofT] at h ⊢
    by_cases g : (recB x.f0 x.f1 x.f2 && mayT l x.f0 x.f1) = true
    · rw [if_pos g] at h ⊢
      exact ih _ h
    · rw [if_neg g]
theorem nil_trips : tripsB [] = true := rfl
theorem l12Of_loop (rs : List S32) (hl : rs.length ≤ 1000) (hM : ∀ x ∈ rs, x.f2.length ≤ 1000) : ∀ (d k i : Nat) (l : List S81), i + d = rs.length → d + 2000 < k → tripsB l = true → spec_l12Of.l0 k rs l i = some (ofT l (rs.drop i)) := by
  intro d
  induction d with
  | zero =>
    intro k i l hi hk hs
    obtain ⟨k, rfl⟩ := tfuel (show 0 < k by omega)
    simp only [spec_l12Of.l0]
    rw [if_neg (by omega), List.drop_eq_nil_of_le (by omega)]
    rfl
  | succ d ih =>
    intro k i l hi hk hs
    obtain ⟨k, rfl⟩ := tfuel (show 0 < k by omega)
    have hil : i < rs.length := by omega
    have hx := hM rs[i] (List.getElem_mem hil)
    have h6 := (trips_parts hs).1
    simp only [spec_l12Of.l0]
    rw [if_pos (by omega), if_pos (by omega), w64 (n := (i : Int) + 1) (by omega) (by omega), ti1, rdTR hil, List.drop_eq_getElem_cons hil, recOk_spec _ _ _ (by omega) k (by omega), Option.bind_some]
    simp only [ofT]
    by_cases hr : recB rs[i].f0 rs[i].f1 rs[i].f2 = true
    · obtain ⟨_, _, p3, p4⟩ := trec_parts hr
      rw [if_pos hr, l12May_eq l _ _ _ h6 p3 p4 k (by omega), Option.bind_some, hr, Bool.true_and]
      by_cases hv : mayT l rs[i].f0 rs[i].f1 = true
      · rw [if_pos hv, if_pos hv, l12Do_eq l _ _ _ h6 (by omega) hv, Option.bind_some]
        exact ih k (i + 1) _ (by omega) (by omega) (doT_well hs hr hv)
      · rw [if_neg hv, if_neg hv]
    · rw [if_neg hr, Bool.eq_false_iff.mpr hr, Bool.false_and, if_neg (by simp)]
theorem tripsOf_spec (rs : List S32) (hl : rs.length ≤ 1000) (hM : ∀ x ∈ rs, x.f2.length ≤ 1000) (k : Nat) (hk : 4000 < k) : spec_TripsOf.f k rs = some (ofT [] rs) := by
  unfold spec_TripsOf.f spec_l12Of.f
  have h0 : spec_l12Of.l0 k rs [] 0 = some (ofT [] rs) := l12Of_loop rs hl hM rs.length k 0 [] (by omega) (by omega) nil_trips
  rw [h0]; rfl
theorem implOfT_loop (rs : List S32) (hl : rs.length ≤ 1000) : ∀ (d k i : Nat) (l : List S81), i + d = rs.length → d + 20 < k → tripsB l = true → impl_TripsOf.l0 k rs l true i = some (ofT l (rs.drop i)) := by
  intro d
  induction d with
  | zero =>
    intro k i l hi hk hs
    obtain ⟨k, rfl⟩ := tfuel (show 0 < k by omega)
    simp only [impl_TripsOf.l0]
    rw [if_pos trivial, if_neg (by omega), List.drop_eq_nil_of_le (by omega)]
    rfl
  | succ d ih =>
    intro k i l hi hk hs
    obtain ⟨k, rfl⟩ := tfuel (show 0 < k by omega)
    have hil : i < rs.length := by omega
    simp only [impl_TripsOf.l0]
    rw [if_pos trivial, if_pos (by omega), if_pos (by omega), w64 (n := (i : Int) + 1) (by omega) (by omega), ti1, rdTR hil, List.drop_eq_getElem_cons hil, tripsDo_impl _ _ _ _ k (by omega), Option.bind_some]
    simp only [ofT]
    unfold tripsDoV tripsMayB
    rw [hs, Bool.true_and]
    by_cases h : (recB rs[i].f0 rs[i].f1 rs[i].f2 && mayT l rs[i].f0 rs[i].f1) = true
    · rw [if_pos h, if_pos h]
      rw [Bool.and_eq_true] at h
      exact ih k (i + 1) _ (by omega) (by omega) (doT_well hs h.1 h.2)
    · rw [if_neg h, if_neg h]
      obtain ⟨k, rfl⟩ := tfuel (show 0 < k by omega)
      simp only [impl_TripsOf.l0]
      rw [if_neg (by simp)]
theorem tripsOf_impl (rs : List S32) (hl : rs.length ≤ 1000) (k : Nat) (hk : 2000 < k) : impl_TripsOf.f k rs = some (ofT [] rs) := by
  unfold impl_TripsOf.f
  have h0 : impl_TripsOf.l0 k rs [] true 0 = some (ofT [] rs) := implOfT_loop rs hl rs.length k 0 [] (by omega) (by omega) nil_trips
  exact h0

end Go.Proofs.Ytmbdphefnalenaa.Pure
