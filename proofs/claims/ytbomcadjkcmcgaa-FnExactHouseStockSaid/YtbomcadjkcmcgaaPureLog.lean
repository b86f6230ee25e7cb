/- The pure side of logs: LogOk is one test. -/
import Derived.Test.YtbomcadjkcmcgaaPureRec
import Derived.Test.YtbomcadjkcmcgaaZa6
namespace Go.Proofs.Ytbomcadjkcmcgaa.Pure
open Go.RowKit Go.Proofs.Ytbomcadjkcmcgaa.Print Go.Proofs.YtbomcadjkcmcgaaW.PrintWords Go.Proofs.YtbomcadjkcmcgaaW.PrintLast

theorem lfuel {k : Nat} (h : 0 < k) : ∃ m, k = m + 1 := ⟨k - 1, by omega⟩
theorem li1 (i : Nat) : ((i : Nat) : Int) + 1 = ((i + 1 : Nat) : Int) := by omega
theorem rdR {l : List S62} {i : Nat} (h : i < l.length) : rd_T62 l (i : Nat) = l[i] := by
  simp [rd_T62, List.getD_eq_getElem?_getD, List.getElem?_eq_getElem h]
/-- A log is well. -/
def logB (l : List S62) (c : Int) : Bool := decide (l.length ≤ 40) && decide (0 ≤ c ∧ c ≤ l.length) && l.all (fun r => recB r.f0 r.f1 r.f2)
theorem any_not_all {α : Type} (p : α → Bool) (l : List α) : l.any (fun x => !p x) = !l.all p := by
  induction l with
  | nil => rfl
  | cons x xs ih => simp only [List.any_cons, List.all_cons, ih]; cases p x <;> simp
theorem logOk_impl (l : List S62) (c : Int) : impl_LogOk.f l c = some (logB l c) := by
  have h1 : ∀ x : S62, impl_LogOk_1.f x.f0 x.f1 x.f2 = some (!recB x.f0 x.f1 x.f2) := fun x => by unfold impl_LogOk_1.f; rw [recOk_impl]; rfl
  unfold impl_LogOk.f logB
  rw [anyO_some _ _ h1]
  simp only [in_impl, Option.bind_some, decide_eq_true_eq, any_not_all (fun x : S62 => recB x.f0 x.f1 x.f2)]
  by_cases ha : (l.length : Int) ≤ 40
  · rw [if_pos ha]
    by_cases hc : 0 ≤ c ∧ c ≤ l.length
    · rw [if_pos hc]; simp [hc]; omega
    · rw [if_neg hc]; simp [hc]
  · rw [if_neg ha]
    have : ¬ l.length ≤ 40 := by omega
    simp [this]

end Go.Proofs.Ytbomcadjkcmcgaa.Pure
