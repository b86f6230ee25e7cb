/- The pure side of a stock out of its records: StockOf, of the program and of the reference, is one. -/
import Derived.Test.YtmbdphefnalenaaPureStockDo
import Derived.Test.YtmbdphefnalenaaZa9
namespace Go.Proofs.Ytmbdphefnalenaa.Pure
open Go.RowKit Go.Proofs.Ytmbdphefnalenaa.Print Go.Proofs.YtmbdphefnalenaaW.PrintWords Go.Proofs.YtmbdphefnalenaaW.PrintLast

theorem rdRec {l : List S32} {i : Nat} (h : i < l.length) : rd_T32 l (i : Nat) = l[i] := by
  simp [rd_T32, List.getD_eq_getElem?_getD, List.getElem?_eq_getElem h]
/-- The records, one behind the other. -/
def ofV (a : Int) : List S49 → List S32 → Int × List S49 × Bool
  | l, [] => (a, l, true)
  | l, r :: rs => if (recB r.f0 r.f1 r.f2 && mayV a l r.f0 r.f1 r.f2) = true then ofV a (doV l r.f0 r.f1 r.f2) rs else (0, [], false)
def stockOfV (a : Int) (rs : List S32) : Int × List S49 × Bool := if 0 ≤ a ∧ a ≤ 9 then ofV a six rs else (0, [], false)
theorem ofV_well (a : Int) : ∀ (rs : List S32) (l : List S49), stockB a l = true → (ofV a l rs).2.2 = true → (ofV a l rs).1 = a ∧ stockB a (ofV a l rs).2.1 = true := by
  intro rs
  induction rs with
  | nil => intro l h _; exact ⟨rfl, h⟩
  | cons r rs ih =>
    intro l h hk
    simp only [ofV] at hk ⊢
    by_cases g : (recB r.f0 r.f1 r.f2 && mayV a l r.f0 r.f1 r.f2) = true
    · rw [if_pos g] at hk ⊢
      rw [Bool.and_eq_true] at g
      exact ih _ (do_well h g.1 g.2) hk
    · rw [if_neg g] at hk; cases hk
theorem ofV_fail (a : Int) : ∀ (rs : List S32) (l : List S49), (ofV a l rs).2.2 = false → ofV a l rs = (0, [], false) := by
  intro rs
  induction rs with
  | nil => intro l h; cases h
  | cons r rs ih =>
    intro l h
    simp only [ofV] at h ⊢
    by_cases g : (recB r.f0 r.f1 r.f2 && mayV a l r.f0 r.f1 r.f2) = true
    · rw [if_pos g] at h ⊢; exact ih _ h
    · rw [if_neg g]
theorem ofV_add (a : Int) (r : S32) : ∀ (rs : List S32) (l : List S49), (ofV a l rs).2.2 = true → ofV a l (rs ++ [r]) = ofV a (ofV a l rs).2.1 [r] := by
  intro rs
  induction rs with
  | nil => intro l _; rfl
  | cons x rs ih =>
    intro l h
    rw [List.cons_append]
    by_cases g : (recB x.f0 x.f1 x.f2 && mayV a l x.f0 x.f1 x.f2) = true
    · have e1 : ofV a l (x :: rs) = ofV a (doV l x.f0 x.f1 x.f2) rs := by simp only [ofV]; rw [if_pos g]
      have e2 : ofV a l (x :: (rs ++ [r])) = ofV a (doV l x.f0 x.f1 x.f2) (rs ++ [r]) := by rw [ofV, if_pos g]
      rw [e1] at h ⊢
      rw [e2]
      exact ih _ h
    · have e1 : ofV a l (x :: rs) = (0, [], false) := by simp only [ofV]; rw [if_neg g]
      rw [e1] at h; cases h
theorem stockOf_well {a : Int} {rs : List S32} (h : (stockOfV a rs).2.2 = true) : (0 ≤ a ∧ a ≤ 9) ∧ (stockOfV a rs).1 = a ∧ stockB a (stockOfV a rs).2.1 = true := by
  unfold stockOfV at h ⊢
  by_cases g : 0 ≤ a ∧ a ≤ 9
  · rw [if_pos g] at h ⊢
    obtain ⟨h1, h2⟩ := ofV_well a rs six (six_well g) h
    exact ⟨g, h1, h2⟩
  · rw [if_neg g] at h; cases h
theorem stockOf_fail {a : Int} {rs : List S32} (h : (stockOfV a rs).2.2 = false) : stockOfV a rs = (0, [], false) := by
  unfold stockOfV at h ⊢
  by_cases g : 0 ≤ a ∧ a ≤ 9
  · rw [if_pos g] at h ⊢; exact ofV_fail a rs six h
  · rw [if_neg g]
theorem l2Of_loop (a : Int) (rs : List S32) (hl : rs.length ≤ 1048576) (M : Nat) (hM : ∀ x ∈ rs, x.f2.length ≤ M) (hM2 : M ≤ 1048576) : ∀ (d k i : Nat) (l : List S49), i + d = rs.length → d + M + 10 < k → stockB a l = true → spec_l2Of.l0 k rs i a l = some (ofV a l (rs.drop i)) := by
  intro d
  induction d with
  | zero =>
    intro k i l hi hk hs
    obtain ⟨k, rfl⟩ := ok_fuel (show 0 < k by omega)
    simp only [spec_l2Of.l0]
    rw [if_neg (by omega), List.drop_eq_nil_of_le (by omega)]
    rfl
  | succ d ih =>
    intro k i l hi hk hs
    obtain ⟨k, rfl⟩ := ok_fuel (show 0 < k by omega)
    have hil : i < rs.length := by omega
    have hx := hM rs[i] (List.getElem_mem hil)
    simp only [spec_l2Of.l0]
    rw [if_pos (by omega), if_pos (by omega), w64 (n := (i : Int) + 1) (by omega) (by omega), i1, rdRec hil, List.drop_eq_getElem_cons hil, recOk_spec _ _ _ (by omega) k (by omega), Option.bind_some]
    simp only [ofV]
    by_cases hr : recB rs[i].f0 rs[i].f1 rs[i].f2 = true
    · rw [if_pos hr, l2May_eq a l _ _ _ (stock_parts hs).2.1 hr k (by omega), Option.bind_some, hr, Bool.true_and]
      by_cases hv : mayV a l rs[i].f0 rs[i].f1 rs[i].f2 = true
      · rw [if_pos hv, if_pos hv, l2Do_eq a l _ _ _ (stock_parts hs).2.1 hr (may_kind hv), Option.bind_some]
        exact ih k (i + 1) _ (by omega) (by omega) (do_well hs hr hv)
      · rw [if_neg hv, if_neg hv]
    · rw [if_neg hr, Bool.eq_false_iff.mpr hr, Bool.false_and, if_neg (by simp)]
theorem l2Of_eq (a : Int) (rs : List S32) (hl : rs.length ≤ 1048576) (M : Nat) (hM : ∀ x ∈ rs, x.f2.length ≤ M) (hM2 : M ≤ 1048576) (k : Nat) (hk : rs.length + M + 10 < k) : spec_l2Of.f k a rs = some (stockOfV a rs) := by
  unfold spec_l2Of.f stockOfV
  rw [stockNew_spec]
  by_cases h : 0 ≤ a ∧ a ≤ 9
  · rw [if_pos h, if_pos h]
    have h0 : spec_l2Of.l0 k rs 0 a six = some (ofV a six rs) := l2Of_loop a rs hl M hM hM2 rs.length k 0 six (by omega) hk (six_well h)
    simp only [Option.bind_some, if_true, h0]
  · rw [if_neg h, if_neg h]; rfl

end Go.Proofs.Ytmbdphefnalenaa.Pure
