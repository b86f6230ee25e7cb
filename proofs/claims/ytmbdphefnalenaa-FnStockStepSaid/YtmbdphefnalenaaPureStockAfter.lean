/- What a stock may behind what was done: plain facts. -/
import Derived.Test.YtmbdphefnalenaaPureStockDo
namespace Go.Proofs.Ytmbdphefnalenaa.Pure
open Go.RowKit Go.Proofs.Ytmbdphefnalenaa.Print Go.Proofs.YtmbdphefnalenaaW.PrintWords Go.Proofs.YtmbdphefnalenaaW.PrintLast

theorem may_parts {a : Int} {l : List S49} {c t : Int} {m : List Int} (h : stockMayB a l c t m = true) : stockB a l = true ∧ recB c t m = true ∧ mayV a l c t m = true := by
  unfold stockMayB at h
  simp only [Bool.and_eq_true] at h
  exact ⟨h.1.1, h.1.2, h.2⟩
theorem do_mayB {a : Int} {l : List S49} {c t : Int} {m : List Int} (h : stockMayB a l c t m = true) : stockB a (doV l c t m) = true := by
  obtain ⟨h1, h2, h3⟩ := may_parts h
  exact do_well h1 h2 h3
/-- The hold of the trip itself, behind what was done. -/
theorem at_do {l : List S49} {c t : Int} {m : List Int} (hl : l.length = 6) (h1 : 1 ≤ t) (h2 : t ≤ 6) : atT (doV l c t m) t = newH l c t m := by
  obtain ⟨i, hi⟩ := Int.eq_ofNat_of_zero_le (show 0 ≤ t - 1 by omega)
  unfold atT doV
  rw [hi, Int.toNat_natCast, rdH (by rw [List.length_set]; omega), List.getElem_set_self]
/-- Another trip's hold stays. -/
theorem at_other {l : List S49} {c t u : Int} {m : List Int} (h1 : 1 ≤ t) (h2 : 1 ≤ u) (hne : t ≠ u) : atT (doV l c t m) u = atT l u := by
  unfold atT doV rd_T49
  rw [List.getD_eq_getElem?_getD, List.getD_eq_getElem?_getD, List.getElem?_set_ne (by omega)]
theorem newH_state (l : List S49) (c t : Int) (m : List Int) (hc : c = 1 ∨ c = 2 ∨ c = 3) : (newH l c t m).f1 = c := by
  unfold newH
  rcases hc with e | e | e <;> subst e <;> simp
theorem rec_close {t : Int} (h1 : 1 ≤ t) (h2 : t ≤ 6) (c : Int) (hc : c = 2 ∨ c = 3) : recB c t [] = true := by
  unfold recB
  rcases hc with e | e <;> subst e <;> simp [h1, h2]
theorem rec_one {t : Int} (h1 : 1 ≤ t) (h2 : t ≤ 6) : recB 1 t [1] = true := by
  unfold recB
  have e : rd [1] 0 = 1 := by decide
  rw [e]
  simp [h1, h2]
theorem do_comm (l : List S49) {c t c' t' : Int} {m m' : List Int} (h1 : 1 ≤ t) (h2 : 1 ≤ t') (hne : t ≠ t') : doV (doV l c t m) c' t' m' = doV (doV l c' t' m') c t m := by
  have e1 : newH (doV l c t m) c' t' m' = newH l c' t' m' := by unfold newH; rw [at_other h1 h2 hne]
  have e2 : newH (doV l c' t' m') c t m = newH l c t m := by unfold newH; rw [at_other h2 h1 (Ne.symm hne)]
  have e3 : doV (doV l c t m) c' t' m' = (doV l c t m).set (t' - 1).toNat (newH l c' t' m') := by unfold doV at e1 ⊢; rw [e1]
  have e4 : doV (doV l c' t' m') c t m = (doV l c' t' m').set (t - 1).toNat (newH l c t m) := by unfold doV at e2 ⊢; rw [e2]
  rw [e3, e4]
  unfold doV
  exact List.set_comm _ _ (by omega)
theorem stockDoV_yes {a : Int} {l : List S49} {c t : Int} {m : List Int} (h : stockMayB a l c t m = true) : stockDoV a l c t m = (a, doV l c t m, true) := by unfold stockDoV; rw [if_pos h]
theorem stockDoV_no {a : Int} {l : List S49} {c t : Int} {m : List Int} (h : stockMayB a l c t m = false) : stockDoV a l c t m = (0, [], false) := by unfold stockDoV; rw [if_neg (by simp [h])]
theorem do_len {l : List S49} {c t : Int} {m : List Int} : (doV l c t m).length = l.length := by unfold doV; rw [List.length_set]
/-- What is bound behind what was done. -/
theorem used_do {a : Int} {l : List S49} {c t : Int} {m : List Int} (h : stockMayB a l c t m = true) : used (doV l c t m) = used l - wH (atT l t) + wH (newH l c t m) := by
  obtain ⟨hs, hr, _⟩ := may_parts h
  obtain ⟨h1, h2, h3, h4, h5⟩ := rec_parts hr
  have hl := (stock_parts hs).2.1
  obtain ⟨i, hi⟩ := Int.eq_ofNat_of_zero_le (show 0 ≤ t - 1 by omega)
  have hil : i < l.length := by omega
  have e : atT l t = l[i] := by unfold atT; rw [hi, rdH hil]
  rw [e]
  unfold doV
  rw [hi, Int.toNat_natCast]
  exact used_set l i _ hil

end Go.Proofs.Ytmbdphefnalenaa.Pure
