/- The pure side of trips: TripsOk, of the program and of the reference, is one test. -/
import Derived.Test.YtmbdphefnalenaaPureRec
import Derived.Test.YtmbdphefnalenaaZc4
import Derived.Test.YtmbdphefnalenaaZc1
namespace Go.Proofs.Ytmbdphefnalenaa.Pure
open Go.RowKit Go.Proofs.Ytmbdphefnalenaa.Print Go.Proofs.YtmbdphefnalenaaW.PrintWords Go.Proofs.YtmbdphefnalenaaW.PrintLast

theorem tfuel {k : Nat} (h : 0 < k) : ∃ m, k = m + 1 := ⟨k - 1, by omega⟩
theorem ti1 (i : Nat) : ((i : Nat) : Int) + 1 = ((i + 1 : Nat) : Int) := by omega
theorem rdT {l : List S81} {i : Nat} (h : i < l.length) : rd_T81 l (i : Nat) = l[i] := by
  simp [rd_T81, List.getD_eq_getElem?_getD, List.getElem?_eq_getElem h]
def tripB (m : List Int) (c : Int) : Bool := manyB m && decide (1 ≤ c ∧ c ≤ 5)
/-- Trips are well. -/
def tripsB (l : List S81) : Bool := decide (l.length ≤ 6) && l.all (fun r => tripB r.f0 r.f1)
theorem tany_not_all {α : Type} (p : α → Bool) (l : List α) : l.any (fun x => !p x) = !l.all p := by
  induction l with
  | nil => rfl
  | cons x xs ih => simp only [List.any_cons, List.all_cons, ih]; cases p x <;> simp
theorem tripOk_impl (m : List Int) (c : Int) : impl_TripsOk_1.f m c = some (!tripB m c) := by
  unfold impl_TripsOk_1.f tripB
  simp only [wanted_impl, in_impl, Option.bind_some]
  cases manyB m <;> simp
theorem tripsOk_impl (l : List S81) : impl_TripsOk.f l = some (tripsB l) := by
  unfold impl_TripsOk.f tripsB
  rw [anyO_some _ _ (fun x : S81 => tripOk_impl x.f0 x.f1)]
  simp only [Option.bind_some, tany_not_all (fun x : S81 => tripB x.f0 x.f1)]
  by_cases ha : (l.length : Int) ≤ 6
  · rw [if_pos ha]; simp; omega
  · rw [if_neg ha]
    have : ¬ l.length ≤ 6 := by omega
    simp [this]
theorem tripsOk_spec_loop (l : List S81) (hl : l.length ≤ 1048576) (M : Nat) (hM : ∀ x ∈ l, x.f0.length ≤ M) (hM2 : M ≤ 1000000000) : ∀ (d k i : Nat), i + d = l.length → d + M + 1 < k → spec_TripsOk.l0 k l i = some (decide (l.length ≤ 6) && (l.drop i).all (fun r => tripB r.f0 r.f1)) := by
  intro d
  induction d with
  | zero =>
    intro k i hi hk
    obtain ⟨k, rfl⟩ := tfuel (show 0 < k by omega)
    simp only [spec_TripsOk.l0]
    rw [if_neg (by omega), List.drop_eq_nil_of_le (by omega)]
    simp; omega
  | succ d ih =>
    intro k i hi hk
    obtain ⟨k, rfl⟩ := tfuel (show 0 < k by omega)
    simp only [spec_TripsOk.l0]
    have hil : i < l.length := by omega
    have hx := hM l[i] (List.getElem_mem hil)
    rw [if_pos (by omega), if_pos (by omega), w64 (n := (i : Int) + 1) (by omega) (by omega), ti1, rdT hil, List.drop_eq_getElem_cons hil, l1Many_spec _ (by omega) k (by omega), ih k (i + 1) (by omega) (by omega)]
    simp only [Option.bind_some, List.all_cons, in_spec, tripB]
    by_cases h : manyB l[i].f0 = true
    · rw [if_pos h, h, Bool.true_and]
      by_cases h2 : 1 ≤ l[i].f1 ∧ l[i].f1 ≤ 5
      · rw [if_pos (by simpa using h2), decide_eq_true h2, Bool.true_and]
      · rw [if_neg (by simpa using h2), decide_eq_false h2]; simp
    · rw [if_neg h, Bool.eq_false_iff.mpr h]; simp
theorem tripsOk_spec (l : List S81) (hl : l.length ≤ 1048576) (M : Nat) (hM : ∀ x ∈ l, x.f0.length ≤ M) (hM2 : M ≤ 1000000000) (k : Nat) (hk : l.length + M + 1 < k) : spec_TripsOk.f k l = some (tripsB l) := by
  unfold spec_TripsOk.f
  exact tripsOk_spec_loop l hl M hM hM2 l.length k 0 (by omega) (by omega)

end Go.Proofs.Ytmbdphefnalenaa.Pure
