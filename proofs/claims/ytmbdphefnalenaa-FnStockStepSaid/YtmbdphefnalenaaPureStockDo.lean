/- The pure side of what a stock may and does: StockMay and StockDo, of the program and of the reference, are one; a stock stays well. -/
import Derived.Test.YtmbdphefnalenaaPureStock
import Derived.Test.YtmbdphefnalenaaZa11
import Derived.Test.YtmbdphefnalenaaZa12
import Derived.Test.YtmbdphefnalenaaZa7
import Derived.Test.YtmbdphefnalenaaZa4
import Derived.Test.YtmbdphefnalenaaZa6
namespace Go.Proofs.Ytmbdphefnalenaa.Pure
open Go.RowKit Go.Proofs.Ytmbdphefnalenaa.Print Go.Proofs.YtmbdphefnalenaaW.PrintWords Go.Proofs.YtmbdphefnalenaaW.PrintLast

/-- The hold of trip t. -/
def atT (l : List S49) (t : Int) : S49 := rd_T49 l (t - 1)
def mayV (a : Int) (l : List S49) (c t : Int) (m : List Int) : Bool :=
  if c = 1 then decide ((atT l t).f1 = 0 ∧ rd m 0 ≤ freeV a l) else if c = 2 then decide ((atT l t).f1 = 1) else if c = 3 then decide ((atT l t).f1 = 1 ∨ (atT l t).f1 = 0) else false
def newH (l : List S49) (c t : Int) (m : List Int) : S49 := if c = 1 then ⟨rd m 0, 1⟩ else if c = 2 then ⟨(atT l t).f0, 2⟩ else ⟨(atT l t).f0, 3⟩
def doV (l : List S49) (c t : Int) (m : List Int) : List S49 := l.set (t - 1).toNat (newH l c t m)
def stockMayB (a : Int) (l : List S49) (c t : Int) (m : List Int) : Bool := stockB a l && recB c t m && mayV a l c t m
def stockDoV (a : Int) (l : List S49) (c t : Int) (m : List Int) : Int × List S49 × Bool := if stockMayB a l c t m = true then (a, doV l c t m, true) else (0, [], false)

theorem stock_parts {a : Int} {l : List S49} (h : stockB a l = true) : (0 ≤ a ∧ a ≤ 9) ∧ l.length = 6 ∧ (∀ x ∈ l, holdB x.f0 x.f1 = true) ∧ 0 ≤ freeV a l := by
  unfold stockB at h
  simp only [Bool.and_eq_true, decide_eq_true_eq, List.all_eq_true] at h
  exact ⟨h.1.1.1, h.1.1.2, h.1.2, h.2⟩
theorem rec_parts {a b : Int} {m : List Int} (h : recB a b m = true) : 1 ≤ a ∧ a ≤ 7 ∧ 1 ≤ b ∧ b ≤ 6 ∧ (a = 1 → m.length = 1 ∧ 1 ≤ rd m 0 ∧ rd m 0 ≤ 3) := by
  unfold recB at h
  rw [Bool.and_eq_true, decide_eq_true_eq] at h
  obtain ⟨h1, h2⟩ := h
  refine ⟨by omega, by omega, by omega, by omega, fun e => ?_⟩
  rw [if_pos e] at h2; simpa using h2
theorem l2May_eq (a : Int) (l : List S49) (c t : Int) (m : List Int) (hl : l.length = 6) (h : recB c t m = true) (k : Nat) (hk : 7 ≤ k) : spec_l2May.f k a l c t m = some (mayV a l c t m) := by
  obtain ⟨h1, h2, h3, h4, h5⟩ := rec_parts h
  unfold spec_l2May.f mayV atT
  rw [w64 (by omega) (by omega), if_pos (by omega), if_pos (by omega), free_spec l a (by omega) k (by omega)]
  by_cases e1 : c = 1
  · have := h5 e1
    rw [if_pos e1, if_pos e1]
    by_cases g : (rd_T49 l (t - 1)).f1 = 0
    · rw [if_pos g, if_pos (by omega), Option.bind_some]; simp [g]
    · rw [if_neg g]; simp [g]
  · rw [if_neg e1, if_neg e1]
    by_cases e2 : c = 2
    · rw [if_pos e2, if_pos e2]; congr 1
    · rw [if_neg e2, if_neg e2]
      by_cases e3 : c = 3
      · rw [if_pos e3, if_pos e3]
        by_cases g : (rd_T49 l (t - 1)).f1 = 1
        · rw [if_pos g]; simp [g]
        · rw [if_neg g]; simp [g]; rfl
      · rw [if_neg e3, if_neg e3]
theorem stockMay_impl (a : Int) (l : List S49) (c t : Int) (m : List Int) (k : Nat) (hk : 8 ≤ k) : impl_StockMay.f k a l c t m = some (stockMayB a l c t m) := by
  obtain ⟨k, rfl⟩ := ok_fuel (show 0 < k by omega)
  unfold impl_StockMay.f stockMayB
  rw [stockOk_impl a l _ (by omega), recOk_impl]
  simp only [Option.bind_some]
  by_cases hs : stockB a l = true
  · rw [if_pos hs, hs]
    simp only [impl_StockMay.j0]
    by_cases hr : recB c t m = true
    · obtain ⟨h1, h2, h3, h4, h5⟩ := rec_parts hr
      have hl := (stock_parts hs).2.1
      have hm := l2May_eq a l c t m hl hr k (by omega)
      rw [hr, if_neg (by simp)]
      simp only [Bool.true_and]
      rw [← hm]
      unfold spec_l2May.f
      rw [free_spec l a (by omega) k (by omega), free_impl l a (by omega) k (by omega)]
    · rw [if_pos (by simpa using hr)]
      simp [hr]
  · rw [if_neg hs]
    simp only [impl_StockMay.j0]
    simp [hs]
theorem may_kind {a : Int} {l : List S49} {c t : Int} {m : List Int} (h : mayV a l c t m = true) : c = 1 ∨ c = 2 ∨ c = 3 := by
  unfold mayV at h
  by_cases e1 : c = 1
  · exact .inl e1
  · by_cases e2 : c = 2
    · exact .inr (.inl e2)
    · by_cases e3 : c = 3
      · exact .inr (.inr e3)
      · rw [if_neg e1, if_neg e2, if_neg e3] at h; cases h
theorem l2Do_eq (a : Int) (l : List S49) (c t : Int) (m : List Int) (hl : l.length = 6) (h : recB c t m = true) (hc : c = 1 ∨ c = 2 ∨ c = 3) : spec_l2Do.f a l c t m = some (a, doV l c t m) := by
  obtain ⟨h1, h2, h3, h4, h5⟩ := rec_parts h
  unfold spec_l2Do.f doV newH atT
  rw [w64 (by omega) (by omega), if_pos (by omega), if_pos (by omega)]
  by_cases e1 : c = 1
  · have := h5 e1
    rw [if_pos e1, if_pos e1, if_pos (by omega)]
  · rw [if_neg e1, if_neg e1]
    by_cases e2 : c = 2
    · rw [if_pos e2, if_pos e2]
    · rw [if_neg e2, if_neg e2, if_pos (by omega)]
theorem stockDo_impl (a : Int) (l : List S49) (c t : Int) (m : List Int) (k : Nat) (hk : 8 ≤ k) : impl_StockDo.f k a l c t m = some (stockDoV a l c t m) := by
  unfold impl_StockDo.f stockDoV
  rw [stockMay_impl a l c t m k hk]
  simp only [Option.bind_some]
  by_cases h : stockMayB a l c t m = true
  · rw [if_pos h, if_pos h]
    unfold stockMayB at h
    simp only [Bool.and_eq_true] at h
    have h6 := (stock_parts h.1.1).2.1
    have hd := l2Do_eq a l c t m h6 h.1.2 (may_kind h.2)
    obtain ⟨h1, h2, h3, h4, h5⟩ := rec_parts h.1.2
    simp only [impl_Hold_57.f]
    rw [if_pos (by omega)]
    simp only [Option.bind_some]
    unfold doV newH atT
    rw [w64 (by omega) (by omega), if_pos (by omega), if_pos (by omega)]
    rcases may_kind h.2 with e | e | e
    · have := h5 e
      rw [if_pos e, if_pos (by omega), if_pos e]
    · rw [if_neg (by omega), if_pos e, if_neg (by omega), if_pos e]
    · rw [if_neg (by omega), if_neg (by omega), if_pos e, if_neg (by omega), if_neg (by omega)]
  · rw [if_neg h, if_neg h]
/-- What is bound or spent of one hold. -/
def wH (h : S49) : Int := if h.f1 = 1 ∨ h.f1 = 2 then h.f0 else 0
def used : List S49 → Int
  | [] => 0
  | h :: l => wH h + used l
theorem wH_bound {h : S49} (hh : holdB h.f0 h.f1 = true) : 0 ≤ wH h ∧ wH h ≤ 3 := by
  unfold holdB at hh
  unfold wH
  by_cases h0 : h.f1 = 0
  · rw [if_neg (by omega)]; omega
  · rw [if_neg h0] at hh
    by_cases h1 : h.f1 = 1 ∨ h.f1 = 2
    · rw [if_pos h1] at hh ⊢; simp at hh; omega
    · rw [if_neg h1]; omega
theorem free_used : ∀ (l : List S49) (a : Int), (∀ x ∈ l, holdB x.f0 x.f1 = true) → l.length ≤ 1000 → -100000 ≤ a - 3 * l.length → a ≤ 100000 → freeV a l = a - used l ∧ 0 ≤ used l ∧ used l ≤ 3 * l.length := by
  intro l
  induction l with
  | nil => intro a _ _ _ _; exact ⟨by simp only [freeV, used]; omega, by simp [used], by simp [used]⟩
  | cons h l ih =>
    intro a hh hl ha ha2
    have hb := wH_bound (hh h (List.mem_cons_self ..))
    simp only [List.length_cons] at hl ha ⊢
    have e : (if h.f1 = 1 ∨ h.f1 = 2 then wrap64 (a - h.f0) else a) = a - wH h := by
      unfold wH at hb ⊢
      by_cases h1 : h.f1 = 1 ∨ h.f1 = 2
      · rw [if_pos h1] at hb; rw [if_pos h1, if_pos h1, w64 (by omega) (by omega)]
      · rw [if_neg h1, if_neg h1]; omega
    obtain ⟨i1, i2, i3⟩ := ih (a - wH h) (fun x hx => hh x (List.mem_cons_of_mem _ hx)) (by omega) (by omega) (by omega)
    simp only [freeV, used]
    rw [e, i1]
    exact ⟨by omega, by omega, by omega⟩
theorem used_set : ∀ (l : List S49) (i : Nat) (x : S49) (h : i < l.length), used (l.set i x) = used l - wH l[i] + wH x := by
  intro l
  induction l with
  | nil => intro i x h; simp at h
  | cons y l ih =>
    intro i x h
    cases i with
    | zero => simp only [List.set_cons_zero, used, List.getElem_cons_zero]; omega
    | succ i =>
      simp only [List.set_cons_succ, used, List.getElem_cons_succ]
      rw [ih i x (by simpa using h)]; omega
theorem stock_used {a : Int} {l : List S49} (h : stockB a l = true) : freeV a l = a - used l ∧ 0 ≤ used l ∧ used l ≤ 18 := by
  obtain ⟨ha, hl, hh, _⟩ := stock_parts h
  have := free_used l a hh (by omega) (by omega) (by omega)
  omega
/-- What is done keeps a stock well. -/
theorem do_well {a : Int} {l : List S49} {c t : Int} {m : List Int} (hs : stockB a l = true) (hr : recB c t m = true) (hv : mayV a l c t m = true) : stockB a (doV l c t m) = true := by
  obtain ⟨ha, hl, hh, hf⟩ := stock_parts hs
  obtain ⟨h1, h2, h3, h4, h5⟩ := rec_parts hr
  obtain ⟨u1, u2, u3⟩ := stock_used hs
  obtain ⟨i, hi⟩ := Int.eq_ofNat_of_zero_le (show 0 ≤ t - 1 by omega)
  have hil : i < l.length := by omega
  have hat : atT l t = l[i] := by unfold atT; rw [hi, rdH hil]
  have hhi := hh l[i] (List.getElem_mem hil)
  have hn : holdB (newH l c t m).f0 (newH l c t m).f1 = true ∧ wH (newH l c t m) ≤ wH l[i] + freeV a l := by
    unfold mayV at hv
    unfold newH
    rw [hat] at hv ⊢
    have hw := wH_bound hhi
    by_cases e1 : c = 1
    · rw [if_pos e1] at hv ⊢
      simp only [decide_eq_true_eq] at hv
      have := h5 e1
      have e0 : wH l[i] = 0 := by unfold wH; rw [if_neg (by omega)]
      refine ⟨by simp [holdB]; omega, ?_⟩
      have : wH (⟨rd m 0, 1⟩ : S49) = rd m 0 := by simp [wH]
      omega
    · rw [if_neg e1] at hv ⊢
      by_cases e2 : c = 2
      · rw [if_pos e2] at hv ⊢
        simp only [decide_eq_true_eq] at hv
        have e0 : wH l[i] = l[i].f0 := by unfold wH; rw [if_pos (by omega)]
        have e3 : wH (⟨l[i].f0, 2⟩ : S49) = l[i].f0 := by simp [wH]
        refine ⟨?_, by omega⟩
        unfold holdB at hhi ⊢
        rw [if_neg (by omega), if_pos (by omega)] at hhi
        simpa using hhi
      · rw [if_neg e2] at hv ⊢
        have e3 : c = 3 := by rcases may_kind (a := a) (l := l) (c := c) (t := t) (m := m) (by unfold mayV; rw [if_neg e1, if_neg e2, hat]; exact hv) with e | e | e <;> omega
        rw [if_pos e3] at hv
        simp only [decide_eq_true_eq] at hv
        have e4 : wH (⟨l[i].f0, 3⟩ : S49) = 0 := by simp [wH]
        refine ⟨?_, by omega⟩
        unfold holdB at hhi ⊢
        rcases hv with g | g
        · rw [if_neg (by omega), if_pos (by omega)] at hhi
          simp at hhi ⊢; omega
        · rw [if_pos g] at hhi
          simp at hhi ⊢; omega
  have hset : doV l c t m = l.set i (newH l c t m) := by unfold doV; rw [hi]; rfl
  have hh' : ∀ x ∈ l.set i (newH l c t m), holdB x.f0 x.f1 = true := by
    intro x hx
    rcases List.mem_or_eq_of_mem_set hx with h | h
    · exact hh x h
    · rw [h]; exact hn.1
  have hlen : (l.set i (newH l c t m)).length = 6 := by rw [List.length_set]; exact hl
  have hu := free_used (l.set i (newH l c t m)) a hh' (by omega) (by omega) (by omega)
  have hus := used_set l i (newH l c t m) hil
  rw [hset]
  unfold stockB
  simp only [Bool.and_eq_true, decide_eq_true_eq, List.all_eq_true]
  exact ⟨⟨⟨ha, hlen⟩, hh'⟩, by omega⟩
def six : List S49 := List.replicate 6 z49
theorem six_well {a : Int} (h : 0 ≤ a ∧ a ≤ 9) : stockB a six = true := by
  have hf : freeV a six = a := by simp [six, freeV, List.replicate, z49]
  unfold stockB
  rw [hf]
  have : six.all (fun h => holdB h.f0 h.f1) = true := by decide
  have h6 : six.length = 6 := by decide
  rw [this, h6]
  simp [h]
theorem stockNew_spec (a : Int) : spec_StockNew.f a = some (if 0 ≤ a ∧ a ≤ 9 then (a, six, true) else (0, [], false)) := by
  unfold spec_StockNew.f
  simp only [in_spec, Option.bind_some, decide_eq_true_eq]
  by_cases h : 0 ≤ a ∧ a ≤ 9
  · rw [if_pos h, if_pos h, if_pos (by omega)]; rfl
  · rw [if_neg h, if_neg h]

end Go.Proofs.Ytmbdphefnalenaa.Pure
