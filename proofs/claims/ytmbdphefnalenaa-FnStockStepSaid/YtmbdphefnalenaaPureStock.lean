/- The pure side of stocks: what is held, what is free; StockOk is one test. -/
import Derived.Test.YtmbdphefnalenaaPureBase
import Derived.Test.YtmbdphefnalenaaPureRec
import Derived.Test.YtmbdphefnalenaaZa10
import Derived.Test.YtmbdphefnalenaaZa3
namespace Go.Proofs.Ytmbdphefnalenaa.Pure
open Go.RowKit Go.Proofs.Ytmbdphefnalenaa.Print Go.Proofs.YtmbdphefnalenaaW.PrintWords Go.Proofs.YtmbdphefnalenaaW.PrintLast

theorem rdH {l : List S49} {i : Nat} (h : i < l.length) : rd_T49 l (i : Nat) = l[i] := by
  simp [rd_T49, List.getD_eq_getElem?_getD, List.getElem?_eq_getElem h]
theorem ok_fuel {k : Nat} (h : 0 < k) : ∃ m, k = m + 1 := ⟨k - 1, by omega⟩
theorem i1 (i : Nat) : ((i : Nat) : Int) + 1 = ((i + 1 : Nat) : Int) := by omega

/-- One hold is well. -/
def holdB (v c : Int) : Bool := if c = 0 then decide (v = 0) else if c = 1 ∨ c = 2 then decide (1 ≤ v ∧ v ≤ 3) else if c = 3 then decide (0 ≤ v ∧ v ≤ 3) else false
theorem hold_impl (k : Nat) (hk : 1 ≤ k) (v c : Int) : impl_Hold_ok.f k v c = some (holdB v c) := by
  obtain ⟨k, rfl⟩ := ok_fuel hk
  unfold impl_Hold_ok.f holdB
  simp only [impl_Hold_ok.j0, in_impl, Option.bind_some]
  by_cases h0 : c = 0
  · rw [if_pos h0, if_pos h0]; congr 1
  · rw [if_neg h0, if_neg h0]
    by_cases h1 : c = 1
    · subst h1; simp
    · rw [if_neg h1]
      by_cases h2 : c = 2
      · subst h2; simp
      · by_cases h3 : c = 3
        · subst h3; simp
        · simp [h1, h2, h3]
/-- What is free: the whole less what is held. -/
def freeV : Int → List S49 → Int
  | x, [] => x
  | x, h :: l => freeV (if h.f1 = 1 ∨ h.f1 = 2 then wrap64 (x - h.f0) else x) l
theorem free_spec_loop (l : List S49) (a : Int) (hl : l.length ≤ 1048576) : ∀ (d k i : Nat) (x : Int), i + d = l.length → d < k → spec_l2Free.l0 k x i a l = some (freeV x (l.drop i)) := by
  intro d
  induction d with
  | zero =>
    intro k i x hi hk
    obtain ⟨k, rfl⟩ := ok_fuel (show 0 < k by omega)
    simp only [spec_l2Free.l0]
    rw [if_neg (by omega), List.drop_eq_nil_of_le (by omega)]; rfl
  | succ d ih =>
    intro k i x hi hk
    obtain ⟨k, rfl⟩ := ok_fuel (show 0 < k by omega)
    simp only [spec_l2Free.l0]
    have hil : i < l.length := by omega
    rw [if_pos (by omega), if_pos (by omega), w64 (n := (i : Int) + 1) (by omega) (by omega), i1, rdH hil, List.drop_eq_getElem_cons hil, ih k (i + 1) _ (by omega) (by omega), ih k (i + 1) _ (by omega) (by omega)]
    simp only [freeV]
    by_cases h1 : l[i].f1 = 1
    · simp [h1]
    · rw [if_neg h1]
      by_cases h2 : l[i].f1 = 2
      · simp [h2]
      · simp [h1, h2]
theorem free_spec (l : List S49) (a : Int) (hl : l.length ≤ 1048576) (k : Nat) (hk : l.length < k) : spec_l2Free.f k a l = some (freeV a l) := by
  unfold spec_l2Free.f
  exact free_spec_loop l a hl l.length k 0 a (by omega) hk
theorem free_impl_loop (l : List S49) (hl : l.length ≤ 1048576) : ∀ (d k i : Nat) (x : Int), i + d = l.length → d < k → impl_Stock_free.l0 k x l l.length i = some (freeV x (l.drop i)) := by
  intro d
  induction d with
  | zero =>
    intro k i x hi hk
    obtain ⟨k, rfl⟩ := ok_fuel (show 0 < k by omega)
    simp only [impl_Stock_free.l0]
    rw [if_neg (by omega), List.drop_eq_nil_of_le (by omega)]; rfl
  | succ d ih =>
    intro k i x hi hk
    obtain ⟨k, rfl⟩ := ok_fuel (show 0 < k by omega)
    simp only [impl_Stock_free.l0]
    have hil : i < l.length := by omega
    rw [if_pos (by omega), if_pos (by omega), if_pos (by omega), w64 (n := (i : Int) + 1) (by omega) (by omega), i1, rdH hil, List.drop_eq_getElem_cons hil, ih k (i + 1) _ (by omega) (by omega), ih k (i + 1) _ (by omega) (by omega)]
    simp only [freeV]
    by_cases h1 : l[i].f1 = 1
    · simp [h1]
    · rw [if_neg h1]
      by_cases h2 : l[i].f1 = 2
      · simp [h2]
      · simp [h1, h2]
theorem free_impl (l : List S49) (a : Int) (hl : l.length ≤ 1048576) (k : Nat) (hk : l.length < k) : impl_Stock_free.f k a l = some (freeV a l) := by
  unfold impl_Stock_free.f
  exact free_impl_loop l hl l.length k 0 a (by omega) hk
/-- A stock is well. -/
def stockB (a : Int) (l : List S49) : Bool := decide (0 ≤ a ∧ a ≤ 9) && decide (l.length = 6) && l.all (fun h => holdB h.f0 h.f1) && decide (0 ≤ freeV a l)
theorem stockOk_impl (a : Int) (l : List S49) (k : Nat) (hk : 7 ≤ k) : impl_StockOk.f k a l = some (stockB a l) := by
  have h1 : ∀ x : S49, impl_StockOk_1.f k x.f0 x.f1 = some (!holdB x.f0 x.f1) := fun x => by unfold impl_StockOk_1.f; rw [hold_impl k (by omega)]; rfl
  unfold impl_StockOk.f stockB
  rw [anyO_some _ _ h1]
  simp only [in_impl, Option.bind_some, decide_eq_true_eq]
  by_cases ha : 0 ≤ a ∧ a ≤ 9
  · rw [if_pos ha]
    by_cases h6 : l.length = 6
    · rw [if_pos (by omega), free_impl l a (by omega) k (by omega)]
      by_cases hx : l.any (fun x => !holdB x.f0 x.f1) = true
      · rw [if_pos hx]
        have : l.all (fun x => holdB x.f0 x.f1) = false := by
          rw [← Bool.not_eq_true, List.all_eq_true]
          intro h
          obtain ⟨x, hm, hn⟩ := List.any_eq_true.mp hx
          rw [h x hm] at hn; cases hn
        simp [this]
      · rw [if_neg hx]
        have : l.all (fun x => holdB x.f0 x.f1) = true := by
          rw [List.all_eq_true]
          intro x hm
          by_cases h : holdB x.f0 x.f1 = true
          · exact h
          · exact absurd (List.any_eq_true.mpr ⟨x, hm, by simpa using h⟩) hx
        simp [this, ha, h6]
    · rw [if_neg (by omega)]; simp [h6]
  · rw [if_neg ha]; simp [ha]

end Go.Proofs.Ytmbdphefnalenaa.Pure
