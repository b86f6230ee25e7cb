/- The pure side of what trips do: TripsDo and TripsOf, of the program and of the reference, are one; trips stay well. -/
import Derived.Test.YtmbdphefnalenaaPureTripsMay
import Derived.Test.YtmbdphefnalenaaZc6
import Derived.Test.YtmbdphefnalenaaZc0
import Derived.Test.YtmbdphefnalenaaZc2
namespace Go.Proofs.Ytmbdphefnalenaa.Pure
open Go.RowKit Go.Proofs.Ytmbdphefnalenaa.Print Go.Proofs.YtmbdphefnalenaaW.PrintWords Go.Proofs.YtmbdphefnalenaaW.PrintLast

/-- The trip behind a record that decides. -/
def newT (x : S81) (c : Int) : S81 := ⟨x.f0, if c = 5 then 2 else if c = 6 then 3 else x.f1 + 2⟩
def doT (l : List S81) (c t : Int) (m : List Int) : List S81 :=
  if c = 4 then l ++ [⟨m, 1⟩] else l.set (t - 1).toNat (newT (rd_T81 l (t - 1)) c)
def tripsDoV (l : List S81) (c t : Int) (m : List Int) : List S81 × Bool := if tripsMayB l c t m = true then (doT l c t m, true) else ([], false)
theorem trips_parts {l : List S81} (h : tripsB l = true) : l.length ≤ 6 ∧ ∀ x ∈ l, tripB x.f0 x.f1 = true := by
  unfold tripsB at h
  simp only [Bool.and_eq_true, decide_eq_true_eq, List.all_eq_true] at h
  exact h
theorem many_len {m : List Int} (h : manyB m = true) : m.length = 3 := by
  unfold manyB at h
  exact (of_decide_eq_true h).1
theorem rec_many {t : Int} {m : List Int} (h : recB 4 t m = true) : manyB m = true := by
  unfold recB at h
  rw [Bool.and_eq_true, if_neg (by decide), if_pos rfl] at h
  exact h.2
theorem rec_len {c t : Int} {m : List Int} (h : recB c t m = true) : m.length ≤ 3 := by
  unfold recB at h
  rw [Bool.and_eq_true] at h
  obtain ⟨_, h2⟩ := h
  by_cases e1 : c = 1
  · rw [if_pos e1] at h2; simp at h2; omega
  · rw [if_neg e1] at h2
    by_cases e4 : c = 4
    · rw [if_pos e4] at h2; have := many_len h2; omega
    · rw [if_neg e4] at h2; simp at h2; simp [h2]
/-- What may come: a new trip, or a decision on one that there is. -/
theorem mayT_cases {l : List S81} {c t : Int} (h : mayT l c t = true) : (c = 4 ∧ t = l.length + 1) ∨ ((c = 5 ∨ c = 6 ∨ c = 7) ∧ c ≠ 4 ∧ 1 ≤ t ∧ t ≤ l.length ∧ (c = 7 → ((rd_T81 l (t - 1)).f1 = 2 ∨ (rd_T81 l (t - 1)).f1 = 3)) ∧ (c ≠ 7 → (rd_T81 l (t - 1)).f1 = 1)) := by
  unfold mayT at h
  by_cases e4 : c = 4
  · rw [if_pos e4] at h; exact .inl ⟨e4, by simpa using h⟩
  · rw [if_neg e4] at h
    unfold stT at h
    by_cases e56 : c = 5 ∨ c = 6
    · rw [if_pos e56, decide_eq_true_eq] at h
      by_cases g : 1 ≤ t ∧ t ≤ (l.length : Int)
      · rw [if_pos g] at h
        exact .inr ⟨by omega, e4, g.1, g.2, fun e => by omega, fun _ => h⟩
      · rw [if_neg g] at h; omega
    · rw [if_neg e56] at h
      by_cases e7 : c = 7
      · rw [if_pos e7, decide_eq_true_eq] at h
        by_cases g : 1 ≤ t ∧ t ≤ (l.length : Int)
        · rw [if_pos g] at h
          exact .inr ⟨by omega, e4, g.1, g.2, fun _ => h, fun e => absurd e7 e⟩
        · rw [if_neg g] at h; omega
      · rw [if_neg e7] at h; cases h
theorem l12Do_eq (l : List S81) (c t : Int) (m : List Int) (hl : l.length ≤ 6) (hm : m.length ≤ 1000) (h : mayT l c t = true) : spec_l12Do.f l c t m = some (doT l c t m) := by
  unfold spec_l12Do.f doT newT
  rcases mayT_cases h with ⟨e4, _⟩ | ⟨e, e4, h1, h2, h7, _⟩
  · rw [if_pos e4, if_pos e4]
    simp only [Option.bind_some, List.length_nil, List.nil_append]
    rw [if_pos (by omega), if_pos (by omega)]
  · rw [if_neg e4, if_neg e4, w64 (n := t - 1) (by omega) (by omega)]
    simp only [if_pos (show 0 ≤ t - 1 by omega), if_pos (show t - 1 < (l.length : Int) by omega)]
    by_cases e5 : c = 5
    · rw [if_pos e5, if_pos e5]
    · rw [if_neg e5, if_neg e5]
      by_cases e6 : c = 6
      · rw [if_pos e6, if_pos e6]
      · rw [if_neg e6, if_neg e6, if_pos (by omega)]
        have := h7 (by omega)
        rw [w64 (by omega) (by omega)]
theorem rdT_mem {l : List S81} {t : Int} (h1 : 1 ≤ t) (h2 : t ≤ l.length) : rd_T81 l (t - 1) ∈ l := by
  obtain ⟨i, hi⟩ := Int.eq_ofNat_of_zero_le (show 0 ≤ t - 1 by omega)
  rw [hi, rdT (by omega)]
  exact List.getElem_mem _
theorem doT_well {l : List S81} {c t : Int} {m : List Int} (hs : tripsB l = true) (hr : recB c t m = true) (h : mayT l c t = true) : tripsB (doT l c t m) = true := by
  obtain ⟨hl, ha⟩ := trips_parts hs
  obtain ⟨p1, p2, p3, p4⟩ := trec_parts hr
  unfold tripsB doT newT
  simp only [Bool.and_eq_true, decide_eq_true_eq, List.all_eq_true]
  rcases mayT_cases h with ⟨e4, e⟩ | ⟨e, e4, h1, h2, h7, h8⟩
  · rw [if_pos e4]
    subst e4
    refine ⟨by simp only [List.length_append, List.length_singleton]; omega, fun x hx => ?_⟩
    rcases List.mem_append.mp hx with hx | hx
    · exact ha x hx
    · simp at hx; subst hx
      unfold tripB
      rw [rec_many hr]; rfl
  · rw [if_neg e4]
    refine ⟨by rw [List.length_set]; omega, fun x hx => ?_⟩
    rcases List.mem_or_eq_of_mem_set hx with hx | hx
    · exact ha x hx
    · subst hx
      have hm := ha _ (rdT_mem h1 h2)
      unfold tripB at hm ⊢
      rw [Bool.and_eq_true] at hm ⊢
      refine ⟨hm.1, ?_⟩
      rw [decide_eq_true_eq]
      dsimp only
      by_cases e5 : c = 5
      · rw [if_pos e5]; omega
      · rw [if_neg e5]
        by_cases e6 : c = 6
        · rw [if_pos e6]; omega
        · rw [if_neg e6]; have := h7 (by omega); omega
theorem doT_len {l : List S81} {c t : Int} {m : List Int} : (doT l c t m).length ≤ l.length + 1 := by
  unfold doT
  by_cases e4 : c = 4
  · rw [if_pos e4]; simp
  · rw [if_neg e4]; simp
theorem l12Copy_loop (l : List S81) (hl : l.length ≤ 1048576) (hM : ∀ x ∈ l, x.f0.length ≤ 1048576) : ∀ (d k i : Nat), i + d = l.length → d < k → spec_l12Copy.l0 k l (l.take i) i = some l := by
  intro d
  induction d with
  | zero =>
    intro k i hi hk
    obtain ⟨k, rfl⟩ := tfuel (show 0 < k by omega)
    simp only [spec_l12Copy.l0]
    rw [if_neg (by omega), List.take_of_length_le (by omega)]
  | succ d ih =>
    intro k i hi hk
    obtain ⟨k, rfl⟩ := tfuel (show 0 < k by omega)
    have hil : i < l.length := by omega
    have hx := hM l[i] (List.getElem_mem hil)
    have ht : (l.take i).length ≤ i := by rw [List.length_take]; omega
    simp only [spec_l12Copy.l0]
    rw [if_pos (by omega)]
    simp only [Option.bind_some, List.length_nil, List.nil_append]
    rw [if_pos (by omega), rdT hil, if_pos (by omega), if_pos (by omega), w64 (n := (i : Int) + 1) (by omega) (by omega), ti1]
    have e : l.take i ++ [(⟨l[i].f0, l[i].f1⟩ : S81)] = l.take (i + 1) := by rw [List.take_succ_eq_append_getElem hil]
    rw [e]
    exact ih k (i + 1) (by omega) (by omega)
theorem l12Copy_eq (l : List S81) (hl : l.length ≤ 1048576) (hM : ∀ x ∈ l, x.f0.length ≤ 1048576) (k : Nat) (hk : l.length < k) : spec_l12Copy.f k l = some l := by
  unfold spec_l12Copy.f
  have := l12Copy_loop l hl hM l.length k 0 (by omega) (by omega)
  rw [List.take_zero] at this
  exact this
theorem trip_small {l : List S81} (h : tripsB l = true) : ∀ x ∈ l, x.f0.length ≤ 3 := by
  intro x hx
  have := (trips_parts h).2 x hx
  unfold tripB at this
  rw [Bool.and_eq_true] at this
  have := many_len this.1
  omega
theorem may_parts {l : List S81} {c t : Int} {m : List Int} (h : tripsMayB l c t m = true) : tripsB l = true ∧ recB c t m = true ∧ mayT l c t = true := by
  unfold tripsMayB at h
  simp only [Bool.and_eq_true] at h
  exact ⟨h.1.1, h.1.2, h.2⟩
theorem tripsDo_spec (l : List S81) (c t : Int) (m : List Int) (hl : l.length ≤ 1000) (hM : ∀ x ∈ l, x.f0.length ≤ 1000) (hm : m.length ≤ 1000) (k : Nat) (hk : 4000 < k) : spec_TripsDo.f k l c t m = some (tripsDoV l c t m) := by
  unfold spec_TripsDo.f tripsDoV
  rw [tripsMay_spec l c t m (by omega) 1000 hM (by omega) (by omega) k (by omega), Option.bind_some]
  by_cases h : tripsMayB l c t m = true
  · obtain ⟨h1, h2, h3⟩ := may_parts h
    rw [if_pos h, if_pos h, l12Copy_eq l (by omega) (fun x hx => by have := hM x hx; omega) k (by omega), Option.bind_some, l12Do_eq l c t m (trips_parts h1).1 (by omega) h3, Option.bind_some]
  · rw [if_neg h, if_neg h]
theorem implDo_loop (l : List S81) (c t : Int) (m : List Int) (h : tripsMayB l c t m = true) : ∀ (d k i : Nat), i + d = l.length → d < k → impl_TripsDo.l0 k (l.take i) l l.length i c t m = some (doT l c t m, true) := by
  obtain ⟨hs, hr, hm⟩ := may_parts h
  obtain ⟨hl, _⟩ := trips_parts hs
  have h3 := trip_small hs
  have hml := rec_len hr
  intro d
  induction d with
  | zero =>
    intro k i hi hk
    obtain ⟨k, rfl⟩ := tfuel (show 0 < k by omega)
    simp only [impl_TripsDo.l0]
    rw [if_neg (by omega), List.take_of_length_le (by omega)]
    unfold doT newT
    rcases mayT_cases hm with ⟨e4, _⟩ | ⟨e, e4, h1, h2, h7, _⟩
    · rw [if_pos e4, if_pos e4]
      unfold slices_Clone_int_int.f
      rw [if_pos (by omega), Option.bind_some, if_pos (by omega)]
    · rw [if_neg e4, if_neg e4, w64 (n := t - 1) (by omega) (by omega), if_pos (by omega), if_pos (by omega)]
      by_cases e5 : c = 5
      · rw [if_pos e5, if_pos e5]
      · rw [if_neg e5, if_neg e5]
        by_cases e6 : c = 6
        · rw [if_pos e6, if_pos e6]
        · rw [if_neg e6, if_neg e6]
          rcases h7 (by omega) with g | g
          · rw [if_pos g, g]; rfl
          · rw [if_neg (by omega), g]; rfl
  | succ d ih =>
    intro k i hi hk
    obtain ⟨k, rfl⟩ := tfuel (show 0 < k by omega)
    have hil : i < l.length := by omega
    have hx := h3 l[i] (List.getElem_mem hil)
    have ht : (l.take i).length ≤ i := by rw [List.length_take]; omega
    simp only [impl_TripsDo.l0]
    unfold slices_Clone_int_int.f
    rw [if_pos (by omega), if_pos (by omega), if_pos (by omega), rdT hil, if_pos (by omega), Option.bind_some, if_pos (by omega), w64 (n := (i : Int) + 1) (by omega) (by omega), ti1]
    have e : l.take i ++ [(⟨l[i].f0, l[i].f1⟩ : S81)] = l.take (i + 1) := by rw [List.take_succ_eq_append_getElem hil]
    rw [e]
    exact ih k (i + 1) (by omega) (by omega)
theorem tripsDo_impl (l : List S81) (c t : Int) (m : List Int) (k : Nat) (hk : 10 < k) : impl_TripsDo.f k l c t m = some (tripsDoV l c t m) := by
  unfold impl_TripsDo.f tripsDoV
  rw [tripsMay_impl l c t m k (by omega), Option.bind_some]
  by_cases h : tripsMayB l c t m = true
  · have hl := (trips_parts (may_parts h).1).1
    have := implDo_loop l c t m h l.length k 0 (by omega) (by omega)
    rw [List.take_zero] at this
    rw [if_pos h, if_pos h]
    exact this
  · rw [if_neg h, if_neg h]

end Go.Proofs.Ytmbdphefnalenaa.Pure
