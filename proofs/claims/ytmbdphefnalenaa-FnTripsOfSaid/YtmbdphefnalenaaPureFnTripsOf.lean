/- Records of trips come one behind the other, cut anywhere: of every code the law is true. Proved: the law's one pure statement. No condition. -/
import Derived.Test.YtmbdphefnalenaaPureDrawTripsOf
import Derived.Test.YtmbdphefnalenaaPureLnTrips
import Derived.Test.YtmbdphefnalenaaZc8
namespace Go.Proofs.Ytmbdphefnalenaa.Pure
open Go.RowKit Go.Proofs.Ytmbdphefnalenaa.Print Go.Proofs.YtmbdphefnalenaaW.PrintWords Go.Proofs.YtmbdphefnalenaaW.PrintLast

/-- Where the walk over what is left stands: fine, and then what is left leads to the end; or not fine, and then the end isn't. -/
def StandsT (rs : List S32) (i : Nat) (fine : Bool) (l : List S81) : Prop :=
  (fine = true ∧ tripsB l = true ∧ ofT l (rs.drop i) = ofT [] rs) ∨ (fine = false ∧ (ofT [] rs).2 = false)
theorem tripsDoV_yes {l : List S81} {c t : Int} {m : List Int} (h : tripsMayB l c t m = true) : tripsDoV l c t m = (doT l c t m, true) := by unfold tripsDoV; rw [if_pos h]
theorem tripsDoV_no {l : List S81} {c t : Int} {m : List Int} (h : tripsMayB l c t m = false) : tripsDoV l c t m = ([], false) := by unfold tripsDoV; rw [if_neg (by simp [h])]
theorem tripsOf_l0 (rs : List S32) (hl : rs.length ≤ 20) (L : List S81) (hL : L = (ofT [] rs).1) : ∀ (d k i : Nat) (fine : Bool) (l : List S81), i + d = rs.length → d + 2200 < k → StandsT rs i fine l →
    Ex (laws_FnTripsOf.l0 k rs L (ofT [] rs).2 l fine i) (fun r => r = true) := by
  intro d
  induction d with
  | zero =>
    intro k i fine l hi hk hs
    obtain ⟨k, rfl⟩ := tfuel (show 0 < k by omega)
    rw [laws_FnTripsOf.l0, if_neg (by omega)]
    rcases hs with ⟨h1, h2, h3⟩ | ⟨h1, h2⟩
    · rw [List.drop_eq_nil_of_le (by omega)] at h3
      have e : ofT [] rs = (l, true) := h3.symm
      have h6 := (trips_parts h2).1
      rw [e] at hL ⊢
      dsimp only at hL ⊢
      subst h1 hL
      rw [if_pos (by rfl), if_pos rfl, lnTrips_refl _ (by omega) (well_short h2) k (by omega)]
      exact ⟨true, rfl, rfl⟩
    · rw [h1, h2, if_pos (by rfl), if_neg (by simp)]
      exact ⟨true, rfl, rfl⟩
  | succ d ih =>
    intro k i fine l hi hk hs
    obtain ⟨k, rfl⟩ := tfuel (show 0 < k by omega)
    have hil : i < rs.length := by omega
    rw [laws_FnTripsOf.l0, if_pos (by omega), w64 (n := (i : Int) + 1) (by omega) (by omega), ti1, rdTR hil]
    rcases hs with ⟨h1, h2, h3⟩ | ⟨h1, h2⟩
    · rw [if_pos h1, if_pos (by omega), tripsDo_impl _ _ _ _ k (by omega), Option.bind_some]
      rw [List.drop_eq_getElem_cons hil] at h3
      simp only [ofT] at h3
      by_cases g : (recB rs[i].f0 rs[i].f1 rs[i].f2 && mayT l rs[i].f0 rs[i].f1) = true
      · rw [if_pos g] at h3
        rw [Bool.and_eq_true] at g
        have hm : tripsMayB l rs[i].f0 rs[i].f1 rs[i].f2 = true := by unfold tripsMayB; rw [h2, g.1, g.2]; rfl
        rw [tripsDoV_yes hm]
        exact ih k (i + 1) _ _ (by omega) (by omega) (.inl ⟨rfl, doT_well h2 g.1 g.2, h3⟩)
      · rw [if_neg g] at h3
        have hm : tripsMayB l rs[i].f0 rs[i].f1 rs[i].f2 = false := by
          unfold tripsMayB; rw [h2, Bool.true_and]; exact Bool.eq_false_iff.mpr g
        rw [tripsDoV_no hm]
        exact ih k (i + 1) _ _ (by omega) (by omega) (.inr ⟨rfl, by rw [← h3]⟩)
    · rw [if_neg (by simp [h1])]
      exact ih k (i + 1) _ _ (by omega) (by omega) (.inr ⟨h1, h2⟩)
theorem tripsOf_j1 (k : Nat) (hk : 4200 ≤ k) (m : List Int) (rs : List S32) (hl : rs.length ≤ 20) :
    Ex (laws_FnTripsOf.j1 (k + 1) m rs (ofT [] rs).1 (ofT [] rs).2 false) (fun r => r = true) := by
  rw [laws_FnTripsOf.j1, if_neg (by simp), w64 (n := (rs.length : Int) + 1) (by omega) (by omega), if_neg (by omega)]
  have e0 : 0 ≤ (m.length : Int) % ((rs.length : Int) + 1) := Int.emod_nonneg _ (by omega)
  have e1 : (m.length : Int) % ((rs.length : Int) + 1) < (rs.length : Int) + 1 := Int.emod_lt_of_pos _ (by omega)
  generalize (m.length : Int) % ((rs.length : Int) + 1) = n at e0 e1 ⊢
  obtain ⟨n, rfl⟩ := Int.eq_ofNat_of_zero_le e0
  have hn : (rs.take n).length ≤ 20 := by rw [List.length_take]; omega
  rw [if_pos e0, if_pos (by omega), Int.toNat_natCast, tripsOf_impl (rs.take n) (by omega) k (by omega), Option.bind_some]
  have hcut : rs.take n ++ rs.drop n = rs := List.take_append_drop n rs
  have e3 : ofT [] rs = ofT [] (rs.take n ++ rs.drop n) := by rw [hcut]
  refine tripsOf_l0 rs hl _ rfl (rs.length - n) k n _ _ (by omega) (by omega) ?_
  by_cases h : (ofT [] (rs.take n)).2 = true
  · refine .inl ⟨h, ofT_well _ _ nil_trips h, ?_⟩
    rw [e3]
    exact (ofT_append (rs.drop n) (rs.take n) [] h).symm
  · have h' : (ofT [] (rs.take n)).2 = false := by simpa using h
    refine .inr ⟨h', ?_⟩
    rw [e3, ofT_append_no (rs.drop n) (rs.take n) [] h']
theorem ofT_short (rs : List S32) : (ofT [] rs).1.length ≤ 6 ∧ ShortT (ofT [] rs).1 := by
  by_cases h : (ofT [] rs).2 = true
  · have := ofT_well rs [] nil_trips h
    exact ⟨(trips_parts this).1, well_short this⟩
  · rw [ofT_fail rs [] (by simpa using h)]
    exact ⟨by simp, fun x hx => by simp at hx⟩
theorem FnTripsOf : laws_FnTripsOf.Pure := by
  intro l0 l1 _ _ h0 _ _ _
  obtain ⟨k, hk⟩ : ∃ k : Nat, 5000 ≤ k := ⟨5000, Nat.le_refl _⟩
  refine ⟨k + 2, Ex.some_ ?_⟩
  have hj : ∀ x : Bool, Ex (laws_FnTripsOf.j0 (k + 2) l0 l1 x) (fun r => r = true) := by
    intro x
    rw [laws_FnTripsOf.j0]
    refine Ex.ite (fun _ => Ex.ret rfl) (fun _ => Ex.bind (drawTripsOf_ex (k + 1) l0 h0 (by omega)) (fun rs hr => ?_))
    obtain ⟨hl, hs⟩ := hr
    obtain ⟨g1, g2⟩ := ofT_short rs
    rw [tripsOf_spec rs (by omega) (fun x hx => by have := hs x hx; omega) (k + 1) (by omega), tripsOf_impl rs (by omega) (k + 1) (by omega), Option.bind_some, Option.bind_some, if_neg (by simp), lnTrips_refl _ (by omega) g2 (k + 1) (by omega), Option.bind_some]
    exact tripsOf_j1 k (by omega) l1 rs (by omega)
  unfold laws_FnTripsOf.f
  exact Ex.ite (fun _ => hj _) (fun _ => hj _)

end Go.Proofs.Ytmbdphefnalenaa.Pure
