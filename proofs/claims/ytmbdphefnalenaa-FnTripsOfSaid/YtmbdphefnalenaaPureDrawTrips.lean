/- Trips that are drawn: the draws end; what is drawn is short. -/
import Derived.Test.YtmbdphefnalenaaPureTripsOf
import Derived.Test.YtmbdphefnalenaaPureDrawRec
import Derived.Test.YtmbdphefnalenaaZc3
namespace Go.Proofs.Ytmbdphefnalenaa.Pure
open Go.RowKit Go.Proofs.Ytmbdphefnalenaa.Print Go.Proofs.YtmbdphefnalenaaW.PrintWords Go.Proofs.YtmbdphefnalenaaW.PrintLast

/-- Trips, each of which wants few numbers. -/
def ShortT (l : List S81) : Prop := ∀ x ∈ l, x.f0.length ≤ 4
def ShortR (l : List S32) : Prop := ∀ x ∈ l, x.f2.length ≤ 4
theorem well_short {l : List S81} (h : tripsB l = true) : ShortT l := fun x hx => by have := trip_small h x hx; omega
theorem short_snoc {l : List S32} (h : ShortR l) {a b : Int} {m : List Int} (hm : m.length ≤ 4) : ShortR (l ++ [⟨a, b, m⟩]) := by
  intro x hx
  rcases List.mem_append.mp hx with h1 | h1
  · exact h x h1
  · simp at h1; subst h1; exact hm
theorem shortT_snoc {l : List S81} (h : ShortT l) {b : Int} {m : List Int} (hm : m.length ≤ 4) : ShortT (l ++ [⟨m, b⟩]) := by
  intro x hx
  rcases List.mem_append.mp hx with h1 | h1
  · exact h x h1
  · simp at h1; subst h1; exact hm
theorem l71Trips_l0 (b : List Int) (hb : Code b) : ∀ (n k : Nat) (p : Int) (rs : List S32) (l : List S81), 2 * n + 4100 ≤ k → 0 ≤ p → p + 6 * n ≤ 100000 → rs.length + n ≤ 100 → ShortR rs → ofT [] rs = (l, true) → tripsB l = true →
    Ex (spec_l71Trips.l0 k rs l n b p) (fun r => r.1.length ≤ rs.length + n ∧ ShortR r.1 ∧ (∃ l', ofT [] r.1 = (l', true) ∧ tripsB l' = true) ∧ 0 ≤ r.2 ∧ r.2 ≤ p + 6 * n) := by
  intro n
  induction n with
  | zero =>
    intro k p rs l hk hp hp2 hr hsh hf hs
    obtain ⟨k, rfl⟩ := tfuel (show 0 < k by omega)
    simp only [spec_l71Trips.l0]
    rw [if_neg (by omega)]
    exact Ex.ret ⟨by dsimp only; omega, hsh, ⟨l, hf, hs⟩, by dsimp only; omega, by dsimp only; omega⟩
  | succ n ih =>
    intro k p rs l hk hp hp2 hr hsh hf hs
    obtain ⟨k, rfl⟩ := tfuel (show 0 < k by omega)
    simp only [spec_l71Trips.l0]
    have e : wrap64 (((n + 1 : Nat) : Int) - 1) = (n : Int) := by rw [w64 (by omega) (by omega)]; omega
    have h6 := (trips_parts hs).1
    rw [if_pos (by omega)]
    refine Ex.bind (pick_ex _ b hb _ _ (by omega) (by omega) (by omega) (by omega) (by omega)) (fun r1 h1 => ?_)
    refine Ex.bind (pick_ex _ b hb _ _ (by omega) (by omega) (by omega) (by omega) (by omega)) (fun r2 h2 => ?_)
    refine Ex.bind (pick_ex _ b hb _ _ (by omega) (by omega) (by omega) (by omega) (by omega)) (fun r3 h3 => ?_)
    refine Ex.bindS ?_
    have step : ∀ (k' : Nat) (c t : Int) (m : List Int) (q : Int), 2 * n + 4100 ≤ k' → m.length ≤ 3 → p ≤ q → q ≤ p + 6 → Ex ((spec_TripsDo.f k' l c t m).bind fun bt => (if bt.2 = true then (if rs.length < 3518437208883 then (spec_l71Trips.l0 k' (rs ++ [(⟨c, t, m⟩ : S32)]) bt.1 (wrap64 (((n + 1 : Nat) : Int) - 1)) b q) else none) else (spec_l71Trips.l0 k' rs l (wrap64 (((n + 1 : Nat) : Int) - 1)) b q))) (fun r => r.1.length ≤ rs.length + (n + 1 : Nat) ∧ ShortR r.1 ∧ (∃ l', ofT [] r.1 = (l', true) ∧ tripsB l' = true) ∧ 0 ≤ r.2 ∧ r.2 ≤ p + 6 * (n + 1 : Nat)) := by
      intro k' c t m q hk' hm hq hq2
      rw [tripsDo_spec l c t m (by omega) (fun x hx => by have := well_short hs x hx; omega) (by omega) k' (by omega), e]
      refine Ex.bindS ?_
      unfold tripsDoV
      by_cases h : tripsMayB l c t m = true
      · obtain ⟨g1, g2, g3⟩ := may_parts h
        rw [if_pos h, if_pos rfl, if_pos (by omega)]
        have hf2 : ofT [] (rs ++ [⟨c, t, m⟩]) = (doT l c t m, true) := by
          rw [ofT_append _ rs [] (by rw [hf]), hf]
          simp only [ofT]
          rw [if_pos (by rw [Bool.and_eq_true]; exact ⟨g2, g3⟩)]
        refine (ih k' q _ _ (by omega) (by omega) (by omega) (by simp only [List.length_append, List.length_singleton]; omega) (short_snoc hsh (by omega)) hf2 (doT_well hs g2 g3)).mono (fun r hr => ?_)
        obtain ⟨f1, f2, f3, f4, f5⟩ := hr
        simp only [List.length_append, List.length_singleton] at f1
        exact ⟨by omega, f2, f3, f4, by omega⟩
      · rw [if_neg h, if_neg (by simp)]
        refine (ih k' q _ _ (by omega) (by omega) (by omega) (by omega) hsh hf hs).mono (fun r hr => ?_)
        obtain ⟨f1, f2, f3, f4, f5⟩ := hr
        exact ⟨by omega, f2, f3, f4, by omega⟩
    have key : ∀ (d : Bool) (c t : Int) (m : List Int) (q : Int), m.length ≤ 3 → p ≤ q → q ≤ p + 4 → (d = true → 0 < l.length) → Ex (spec_l71Trips.j1 k rs l ((n + 1 : Nat) : Int) d b q c t m) (fun r => r.1.length ≤ rs.length + (n + 1 : Nat) ∧ ShortR r.1 ∧ (∃ l', ofT [] r.1 = (l', true) ∧ tripsB l' = true) ∧ 0 ≤ r.2 ∧ r.2 ≤ p + 6 * (n + 1 : Nat)) := by
      intro d c t m q hm hq hq2 hd
      obtain ⟨k, rfl⟩ := tfuel (show 0 < k by omega)
      simp only [spec_l71Trips.j1]
      refine Ex.ite (fun h => ?_) (fun _ => step k c t m q (by omega) hm hq (by omega))
      have := hd h
      refine Ex.bind (pick_ex _ b hb _ _ (by omega) (by omega) (by omega) (by omega) (by omega)) (fun r4 h4 => ?_)
      refine Ex.bind (pick_ex _ b hb _ _ (by omega) (by omega) (by omega) (by omega) (by omega)) (fun r5 h5 => ?_)
      refine Ex.bindS ?_
      exact step k _ _ [] r5.2 (by omega) (by simp) (by omega) (by omega)
    refine Ex.ite (fun hgt => ?_) (fun _ => ?_)
    · refine Ex.bind (pick_ex _ b hb _ _ (by omega) (by omega) (by omega) (by omega) (by omega)) (fun r4 h4 => ?_)
      exact key _ _ _ _ r4.2 (by simp) (by omega) (by omega) (fun _ => by omega)
    · exact key _ _ _ _ r3.2 (by simp) (by omega) (by omega) (fun h => by cases h)
theorem l71Trips_ex (k : Nat) (b : List Int) (hb : Code b) (p : Int) (hp : 0 ≤ p) (hp2 : p ≤ 50000) (hk : 4200 ≤ k) :
    Ex (spec_l71Trips.f k b p) (fun r => r.1.length ≤ 13 ∧ ShortR r.1 ∧ (∃ l', ofT [] r.1 = (l', true) ∧ tripsB l' = true) ∧ 0 ≤ r.2 ∧ r.2 ≤ p + 100) := by
  unfold spec_l71Trips.f
  refine Ex.bind (pick_ex _ b hb _ _ (by omega) (by omega) (by omega) (by omega) (by omega)) (fun r1 h1 => ?_)
  obtain ⟨n, hn⟩ := Int.eq_ofNat_of_zero_le h1.1
  rw [hn]
  refine (l71Trips_l0 b hb n k r1.2 [] [] (by omega) (by omega) (by omega) (by simp only [List.length_nil]; omega) (fun x hx => by simp at hx) rfl nil_trips).mono (fun r hr => ?_)
  obtain ⟨g1, g2, g3, g4, g5⟩ := hr
  simp only [List.length_nil] at g1
  exact ⟨by omega, g2, g3, g4, by omega⟩

end Go.Proofs.Ytmbdphefnalenaa.Pure
