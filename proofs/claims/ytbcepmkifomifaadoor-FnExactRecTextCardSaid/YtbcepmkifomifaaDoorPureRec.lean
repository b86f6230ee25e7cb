/- The pure side of records: RecOk, of the program and of the reference, is one test; a record that is drawn. -/
import Derived.Test.YtbcepmkifomifaaDoorPureBase
import Derived.Test.YtbcepmkifomifaaDoorZf0
import Derived.Test.YtbcepmkifomifaaDoorZf1
namespace Go.Proofs.YtbcepmkifomifaaDoor.Pure
open Go.RowKit Go.Proofs.YtbcepmkifomifaaDoor.Print Go.Proofs.YtbcepmkifomifaaDoorW.PrintWords Go.Proofs.YtbcepmkifomifaaDoorW.PrintLast

/-- What may be wanted: three numbers from 0 to 3, not all 0. -/
def manyB (m : List Int) : Bool := decide (m.length = 3 ∧ (∀ x ∈ m, 0 ≤ x ∧ x ≤ 3) ∧ ∃ x ∈ m, x ≠ 0)
def recB (a b : Int) (m : List Int) : Bool :=
  decide (1 ≤ b ∧ b ≤ 6 ∧ 1 ≤ a ∧ a ≤ 7) && (if a = 1 then decide (m.length = 1 ∧ 1 ≤ rd m 0 ∧ rd m 0 ≤ 3) else if a = 4 then manyB m else decide (m.length = 0))
theorem anyO_some {α : Type} (p : α → Bool) (f : α → Option Bool) (h : ∀ x, f x = some (p x)) (l : List α) : anyO f l = some (l.any p) := by
  induction l with
  | nil => rfl
  | cons x xs ih =>
    simp only [anyO, h, Option.bind_some, List.any_cons, ih]
    cases p x <;> simp
theorem isTrip_impl (a : Int) : impl_isTrip.f a = some (decide (1 ≤ a ∧ a ≤ 6)) := by unfold impl_isTrip.f; rw [in_impl]; rfl
theorem wanted_impl (m : List Int) : impl_wantedOk.f m = some (manyB m) := by
  have h1 : ∀ x, impl_wantedOk_1.f x = some (!decide (0 ≤ x ∧ x ≤ 3)) := fun x => by unfold impl_wantedOk_1.f; rw [in_impl]; rfl
  have h2 : ∀ x, impl_wantedOk_2.f x = some (x != 0) := fun x => rfl
  unfold impl_wantedOk.f manyB
  rw [anyO_some _ _ h1, anyO_some _ _ h2]
  by_cases h3 : (m.length : Int) = 3
  · rw [if_pos h3]
    simp only [Option.bind_some]
    have h3' : m.length = 3 := by omega
    by_cases ha : m.any (fun x => !decide (0 ≤ x ∧ x ≤ 3)) = true
    · rw [if_pos ha]
      congr 1
      symm
      rw [decide_eq_false_iff_not]
      rintro ⟨_, h, _⟩
      obtain ⟨x, hx, hn⟩ := List.any_eq_true.mp ha
      have := h x hx
      simp at hn; omega
    · rw [if_neg ha]
      congr 1
      rw [Bool.eq_iff_iff, decide_eq_true_eq, List.any_eq_true]
      constructor
      · rintro ⟨x, hx, hn⟩
        refine ⟨h3', fun y hy => ?_, x, hx, by simpa using hn⟩
        by_cases hy2 : 0 ≤ y ∧ y ≤ 3
        · exact hy2
        · exact absurd (List.any_eq_true.mpr ⟨y, hy, by rw [decide_eq_false hy2]; rfl⟩) ha
      · rintro ⟨_, _, x, hx, hn⟩
        exact ⟨x, hx, by simpa using hn⟩
  · rw [if_neg h3]
    congr 1
    symm
    rw [decide_eq_false_iff_not]
    rintro ⟨h, _⟩
    omega
/-- The reference's loop over what is wanted: it sums what it has seen. -/
theorem l1Many_loop (m : List Int) (hl : m.length ≤ 1000000000) : ∀ (d k i : Nat) (s : Int), i + d = m.length → d < k → (∀ j, j < i → 0 ≤ rd m j ∧ rd m j ≤ 3) → 0 ≤ s → s ≤ 3 * i → (s > 0 ↔ ∃ j, j < i ∧ rd m j ≠ 0) →
    spec_l1Many.l0 k m s i = some (manyB m) := by
  have hmem : ∀ (P : Int → Prop), (∀ x ∈ m, P x) ↔ ∀ j, j < m.length → P (rd m (j : Nat)) := by
    intro P
    constructor
    · intro h j hj
      have : rd m (j : Nat) = m[j] := by simp [rd, List.getD_eq_getElem?_getD, List.getElem?_eq_getElem hj]
      rw [this]; exact h _ (List.getElem_mem hj)
    · intro h x hx
      obtain ⟨j, hj, rfl⟩ := List.getElem_of_mem hx
      have : rd m (j : Nat) = m[j] := by simp [rd, List.getD_eq_getElem?_getD, List.getElem?_eq_getElem hj]
      rw [← this]; exact h j hj
  intro d
  induction d with
  | zero =>
    intro k i s hi hk hr h0 h1 hs
    obtain ⟨k, rfl⟩ : ∃ m, k = m + 1 := ⟨k - 1, by omega⟩
    simp only [spec_l1Many.l0]
    rw [if_neg (by omega)]
    unfold manyB
    by_cases h3 : (m.length : Int) = 3
    · rw [if_pos h3]
      congr 1
      rw [Bool.eq_iff_iff, decide_eq_true_eq, decide_eq_true_eq]
      constructor
      · intro hpos
        refine ⟨by omega, (hmem _).mpr (fun j hj => hr j (by omega)), ?_⟩
        obtain ⟨j, hj, hn⟩ := hs.mp hpos
        have hj2 : j < m.length := by omega
        have : rd m (j : Nat) = m[j] := by simp [rd, List.getD_eq_getElem?_getD, List.getElem?_eq_getElem hj2]
        exact ⟨m[j], List.getElem_mem hj2, by rw [← this]; exact hn⟩
      · rintro ⟨_, _, x, hx, hn⟩
        obtain ⟨j, hj, rfl⟩ := List.getElem_of_mem hx
        have : rd m (j : Nat) = m[j] := by simp [rd, List.getD_eq_getElem?_getD, List.getElem?_eq_getElem hj]
        exact hs.mpr ⟨j, by omega, by rw [this]; exact hn⟩
    · rw [if_neg h3]
      congr 1
      symm
      rw [decide_eq_false_iff_not]
      rintro ⟨h, _⟩
      omega
  | succ d ih =>
    intro k i s hi hk hr h0 h1 hs
    obtain ⟨k, rfl⟩ : ∃ m, k = m + 1 := ⟨k - 1, by omega⟩
    simp only [spec_l1Many.l0, in_spec, Option.bind_some]
    rw [if_pos (by omega), if_pos (by omega)]
    by_cases hx : 0 ≤ rd m (i : Nat) ∧ rd m (i : Nat) ≤ 3
    · rw [if_pos (by simpa using hx), w64 (n := s + rd m (i : Nat)) (by omega) (by omega), w64 (by omega) (by omega)]
      have e : ((i : Nat) : Int) + 1 = ((i + 1 : Nat) : Int) := by omega
      rw [e]
      refine ih k (i + 1) _ (by omega) (by omega) (fun j hj => ?_) (by omega) (by omega) ?_
      · by_cases hji : j = i
        · subst hji; exact hx
        · exact hr j (by omega)
      · constructor
        · intro hp
          by_cases hz : rd m (i : Nat) = 0
          · obtain ⟨j, hj, hn⟩ := hs.mp (by omega)
            exact ⟨j, by omega, hn⟩
          · exact ⟨i, by omega, hz⟩
        · rintro ⟨j, hj, hn⟩
          by_cases hji : j = i
          · subst hji; omega
          · have := hs.mpr ⟨j, by omega, hn⟩; omega
    · rw [if_neg (by simpa using hx)]
      congr 1
      symm
      unfold manyB
      rw [decide_eq_false_iff_not]
      rintro ⟨_, h, _⟩
      exact hx ((hmem _).mp h i (by omega))
theorem l1Many_spec (m : List Int) (hl : m.length ≤ 1000000000) (k : Nat) (hk : m.length < k) : spec_l1Many.f k m = some (manyB m) :=
  l1Many_loop m hl m.length k 0 0 (by omega) hk (fun j hj => by omega) (by omega) (by omega) ⟨fun h => by omega, fun ⟨j, hj, _⟩ => by omega⟩
theorem recOk_impl (a b : Int) (m : List Int) : impl_RecOk.f a b m = some (recB a b m) := by
  unfold impl_RecOk.f recB
  simp only [in_impl, isTrip_impl, wanted_impl, Option.bind_some, decide_eq_true_eq]
  by_cases h1 : a = 1
  · subst h1
    simp only [if_true]
    by_cases hl : (m.length : Int) = 1
    · rw [if_pos hl, if_pos (by omega)]
      have hl' : m.length = 1 := by omega
      by_cases hb : 1 ≤ b ∧ b ≤ 6 <;> simp [hb, hl'] <;> omega
    · rw [if_neg hl]
      have hl' : ¬ m.length = 1 := by omega
      by_cases hb : 1 ≤ b ∧ b ≤ 6 <;> simp [hb, hl']
  · rw [if_neg h1, if_neg h1]
    by_cases h4 : a = 4
    · subst h4
      simp only [if_true]
      by_cases hb : 1 ≤ b ∧ b ≤ 6 <;> simp [hb]
      all_goals (try (intros; omega))
    · rw [if_neg h4, if_neg h4]
      by_cases ha : 1 ≤ a ∧ a ≤ 7
      · rw [if_pos ha]
        by_cases hb : 1 ≤ b ∧ b ≤ 6
        · rw [if_pos hb]
          congr 1
          rw [Bool.eq_iff_iff]; simp; omega
        · rw [if_neg hb]
          congr 1
          symm
          rw [Bool.and_eq_false_iff]
          left
          rw [decide_eq_false_iff_not]; omega
      · rw [if_neg ha]
        congr 1
        symm
        rw [Bool.and_eq_false_iff]
        left
        rw [decide_eq_false_iff_not]; omega
theorem recOk_spec (a b : Int) (m : List Int) (hl : m.length ≤ 1000000000) (k : Nat) (hk : m.length < k) : spec_RecOk.f k a b m = some (recB a b m) := by
  unfold spec_RecOk.f recB
  simp only [in_spec, l1Many_spec m hl k hk, Option.bind_some, decide_eq_true_eq]
  by_cases hb : 1 ≤ b ∧ b ≤ 6
  · rw [if_pos hb]
    by_cases h1 : a = 1
    · subst h1
      simp only [if_true]
      by_cases hl : (m.length : Int) = 1
      · rw [if_pos hl, if_pos (by omega)]
        have hl' : m.length = 1 := by omega
        simp [hb, hl']
      · rw [if_neg hl]
        have hl' : ¬ m.length = 1 := by omega
        simp [hl']
    · rw [if_neg h1, if_neg h1]
      by_cases h4 : a = 4
      · subst h4
        simp [hb]
      · rw [if_neg h4, if_neg h4]
        by_cases ha : 2 ≤ a ∧ a ≤ 7
        · rw [if_pos ha]
          congr 1
          rw [Bool.eq_iff_iff]; simp; omega
        · rw [if_neg ha]
          congr 1
          symm
          rw [Bool.and_eq_false_iff]
          left
          rw [decide_eq_false_iff_not]; omega
  · rw [if_neg hb]
    congr 1
    symm
    rw [Bool.and_eq_false_iff]
    left
    rw [decide_eq_false_iff_not]; omega

end Go.Proofs.YtbcepmkifomifaaDoor.Pure
