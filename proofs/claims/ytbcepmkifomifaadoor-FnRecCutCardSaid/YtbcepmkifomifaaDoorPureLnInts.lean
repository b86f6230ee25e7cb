/- The pure side of the laws' own comparison of lists of numbers, and of records. -/
import Derived.Test.YtbcepmkifomifaaDoorPureBase
import Derived.Test.YtbcepmkifomifaaDoorZc2
namespace Go.Proofs.YtbcepmkifomifaaDoor.Pure
open Go.RowKit Go.Proofs.YtbcepmkifomifaaDoor.Print Go.Proofs.YtbcepmkifomifaaDoorW.PrintWords Go.Proofs.YtbcepmkifomifaaDoorW.PrintLast

theorem rdL_getElem {l : List Int} {i : Nat} (h : i < l.length) : rd l (i : Nat) = l[i] := by
  simp [rd, List.getD_eq_getElem?_getD, List.getElem?_eq_getElem h]
theorem lnInts_loop (l m : List Int) (hl : l.length ≤ 1048576) (hlm : l.length = m.length) : ∀ (d k i : Nat), i + d = l.length → d < k → (∀ j, j < i → l[j]? = m[j]?) → laws_lnInts.l0 k l m i = some (decide (l = m)) := by
  intro d
  induction d with
  | zero =>
    intro k i hi hk hj
    obtain ⟨k, rfl⟩ : ∃ m, k = m + 1 := ⟨k - 1, by omega⟩
    simp only [laws_lnInts.l0]
    rw [if_neg (by omega)]
    congr 1
    symm
    rw [decide_eq_true_eq]
    apply List.ext_getElem?
    intro j
    by_cases h : j < i
    · exact hj j h
    · rw [List.getElem?_eq_none (by omega), List.getElem?_eq_none (by omega)]
  | succ d ih =>
    intro k i hi hk hj
    obtain ⟨k, rfl⟩ : ∃ m, k = m + 1 := ⟨k - 1, by omega⟩
    simp only [laws_lnInts.l0]
    have e : ((i : Nat) : Int) + 1 = ((i + 1 : Nat) : Int) := by omega
    rw [if_pos (by omega), if_pos (by omega), if_pos (by omega), w64 (by omega) (by omega), e, rdL_getElem (by omega), rdL_getElem (by omega)]
    by_cases h : l[i] = m[i]
    · rw [if_pos h]
      refine ih k (i + 1) (by omega) (by omega) (fun j hjj => ?_)
      by_cases hji : j = i
      · subst hji
        rw [List.getElem?_eq_getElem (by omega), List.getElem?_eq_getElem (by omega), h]
      · exact hj j (by omega)
    · rw [if_neg h]
      congr 1
      symm
      rw [decide_eq_false_iff_not]
      rintro rfl
      exact h rfl
theorem lnInts_eq (l m : List Int) (hl : l.length ≤ 1048576) (k : Nat) (hk : l.length < k) : laws_lnInts.f k l m = some (decide (l = m)) := by
  unfold laws_lnInts.f
  by_cases h : (l.length : Int) = m.length
  · rw [if_pos h]
    exact lnInts_loop l m hl (by omega) l.length k 0 (by omega) hk (fun j hj => by omega)
  · rw [if_neg h]
    congr 1
    symm
    rw [decide_eq_false_iff_not]
    rintro rfl
    exact h rfl
theorem lnRec_eq (k : Nat) (a b : Int) (m : List Int) (a' b' : Int) (m' : List Int) (hl : m.length ≤ 1048576) (hk : m.length < k) : laws_lnRec.f k a b m a' b' m' = some (decide (a = a' ∧ b = b' ∧ m = m')) := by
  unfold laws_lnRec.f
  rw [lnInts_eq m m' hl k hk]
  by_cases h1 : a = a' <;> by_cases h2 : b = b' <;> simp [h1, h2]

end Go.Proofs.YtbcepmkifomifaaDoor.Pure
