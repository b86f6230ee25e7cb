/- The reference's StockOk is the one test. -/
import Derived.Test.YtmbdphefnalenaaPureStock
import Derived.Test.YtmbdphefnalenaaZa4
namespace Go.Proofs.Ytmbdphefnalenaa.Pure
open Go.RowKit Go.Proofs.Ytmbdphefnalenaa.Print Go.Proofs.YtmbdphefnalenaaW.PrintWords Go.Proofs.YtmbdphefnalenaaW.PrintLast

theorem hold_spec (k : Nat) (hk : 1 ≤ k) (v c : Int) : spec_l2Hold.f k v c = some (holdB v c) := by
  obtain ⟨k, rfl⟩ := ok_fuel hk
  unfold spec_l2Hold.f holdB
  simp only [spec_l2Hold.j0, in_spec, Option.bind_some]
  by_cases h0 : c = 0
  · rw [if_pos h0, if_pos h0]; congr 1
  · rw [if_neg h0, if_neg h0]
    by_cases h1 : c = 1
    · subst h1; simp
    · rw [if_neg h1]
      by_cases h2 : c = 2
      · subst h2; simp
      · by_cases h3 : c = 3
        · subst h3; simp
        · simp [h1, h2, h3]
theorem stockOk_spec_loop (l : List S49) (a : Int) (hl : l.length ≤ 1048576) : ∀ (d k i : Nat), i + d = l.length → d + l.length + 1 < k → spec_StockOk.l0 k i a l = some (decide (0 ≤ a ∧ a ≤ 9) && decide (l.length = 6) && (l.drop i).all (fun h => holdB h.f0 h.f1) && decide (0 ≤ freeV a l)) := by
  intro d
  induction d with
  | zero =>
    intro k i hi hk
    obtain ⟨k, rfl⟩ := ok_fuel (show 0 < k by omega)
    simp only [spec_StockOk.l0]
    rw [if_neg (by omega), List.drop_eq_nil_of_le (by omega), free_spec l a hl k (by omega)]
    simp only [in_spec, Option.bind_some, decide_eq_true_eq]
    by_cases ha : 0 ≤ a ∧ a ≤ 9
    · rw [if_pos ha]
      by_cases h6 : l.length = 6
      · rw [if_pos (by omega)]; simp [ha, h6]
      · rw [if_neg (by omega)]; simp [h6]
    · rw [if_neg ha]; simp [ha]
  | succ d ih =>
    intro k i hi hk
    obtain ⟨k, rfl⟩ := ok_fuel (show 0 < k by omega)
    simp only [spec_StockOk.l0]
    have hil : i < l.length := by omega
    rw [if_pos (by omega), if_pos (by omega), w64 (n := (i : Int) + 1) (by omega) (by omega), i1, rdH hil, List.drop_eq_getElem_cons hil, hold_spec k (by omega), ih k (i + 1) (by omega) (by omega)]
    simp only [Option.bind_some, List.all_cons]
    by_cases h : holdB l[i].f0 l[i].f1 = true
    · rw [if_pos h, h, Bool.true_and]
    · rw [if_neg h, Bool.eq_false_iff.mpr h]; simp
theorem stockOk_spec (a : Int) (l : List S49) (hl : l.length ≤ 1048576) (k : Nat) (hk : 2 * l.length + 1 < k) : spec_StockOk.f k a l = some (stockB a l) := by
  unfold spec_StockOk.f
  exact stockOk_spec_loop l a hl l.length k 0 (by omega) (by omega)

end Go.Proofs.Ytmbdphefnalenaa.Pure
