/- The pure side of logs: LogOk, of the program and of the reference, is one test. -/
import Derived.Test.YtkbjgmfghhgodaaPureRec
import Derived.Test.YtkbjgmfghhgodaaZw0
namespace Go.Proofs.Ytkbjgmfghhgodaa.Pure
open Go.RowKit Go.Proofs.Ytkbjgmfghhgodaa.Print Go.Proofs.YtkbjgmfghhgodaaW.PrintWords Go.Proofs.YtkbjgmfghhgodaaW.PrintLast

theorem lfuel {k : Nat} (h : 0 < k) : ∃ m, k = m + 1 := ⟨k - 1, by omega⟩
theorem li1 (i : Nat) : ((i : Nat) : Int) + 1 = ((i + 1 : Nat) : Int) := by omega
theorem rdR {l : List S45} {i : Nat} (h : i < l.length) : rd_T45 l (i : Nat) = l[i] := by
  simp [rd_T45, List.getD_eq_getElem?_getD, List.getElem?_eq_getElem h]
/-- A log is well. -/
def logB (l : List S45) (c : Int) : Bool := decide (l.length ≤ 40) && decide (0 ≤ c ∧ c ≤ l.length) && l.all (fun r => recB r.f0 r.f1 r.f2)
theorem any_not_all {α : Type} (p : α → Bool) (l : List α) : l.any (fun x => !p x) = !l.all p := by
  induction l with
  | nil => rfl
  | cons x xs ih => simp only [List.any_cons, List.all_cons, ih]; cases p x <;> simp
theorem logOk_impl (l : List S45) (c : Int) : impl_LogOk.f l c = some (logB l c) := by
  have h1 : ∀ x : S45, impl_LogOk_1.f x.f0 x.f1 x.f2 = some (!recB x.f0 x.f1 x.f2) := fun x => by unfold impl_LogOk_1.f; rw [recOk_impl]; rfl
  unfold impl_LogOk.f logB
  rw [anyO_some _ _ h1]
  simp only [in_impl, Option.bind_some, decide_eq_true_eq, any_not_all (fun x : S45 => recB x.f0 x.f1 x.f2)]
  by_cases ha : (l.length : Int) ≤ 40
  · rw [if_pos ha]
    by_cases hc : 0 ≤ c ∧ c ≤ l.length
    · rw [if_pos hc]; simp [hc]; omega
    · rw [if_neg hc]; simp [hc]
  · rw [if_neg ha]
    have : ¬ l.length ≤ 40 := by omega
    simp [this]
theorem logOk_spec_loop (l : List S45) (c : Int) (hl : l.length ≤ 1048576) (M : Nat) (hM : ∀ x ∈ l, x.f2.length ≤ M) (hM2 : M ≤ 1000000000) : ∀ (d k i : Nat), i + d = l.length → d + M + 1 < k → spec_LogOk.l0 k i l c = some (decide (l.length ≤ 40) && decide (0 ≤ c ∧ c ≤ l.length) && (l.drop i).all (fun r => recB r.f0 r.f1 r.f2)) := by
  intro d
  induction d with
  | zero =>
    intro k i hi hk
    obtain ⟨k, rfl⟩ := lfuel (show 0 < k by omega)
    simp only [spec_LogOk.l0]
    rw [if_neg (by omega), List.drop_eq_nil_of_le (by omega)]
    simp only [in_spec, Option.bind_some]
    by_cases ha : (l.length : Int) ≤ 40
    · rw [if_pos ha]; simp; omega
    · rw [if_neg ha]
      have : ¬ l.length ≤ 40 := by omega
      simp [this]
  | succ d ih =>
    intro k i hi hk
    obtain ⟨k, rfl⟩ := lfuel (show 0 < k by omega)
    simp only [spec_LogOk.l0]
    have hil : i < l.length := by omega
    have hx := hM l[i] (List.getElem_mem hil)
    rw [if_pos (by omega), if_pos (by omega), w64 (n := (i : Int) + 1) (by omega) (by omega), li1, rdR hil, List.drop_eq_getElem_cons hil, recOk_spec _ _ _ (by omega) k (by omega), ih k (i + 1) (by omega) (by omega)]
    simp only [Option.bind_some, List.all_cons]
    by_cases h : recB l[i].f0 l[i].f1 l[i].f2 = true
    · rw [if_pos h, h, Bool.true_and]
    · rw [if_neg h, Bool.eq_false_iff.mpr h]; simp
theorem logOk_spec (l : List S45) (c : Int) (hl : l.length ≤ 1048576) (M : Nat) (hM : ∀ x ∈ l, x.f2.length ≤ M) (hM2 : M ≤ 1000000000) (k : Nat) (hk : l.length + M + 1 < k) : spec_LogOk.f k l c = some (logB l c) := by
  unfold spec_LogOk.f
  exact logOk_spec_loop l c hl M hM hM2 l.length k 0 (by omega) (by omega)

end Go.Proofs.Ytkbjgmfghhgodaa.Pure
