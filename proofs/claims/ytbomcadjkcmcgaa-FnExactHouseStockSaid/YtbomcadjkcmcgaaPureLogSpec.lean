/- The reference's LogOk is the one test. -/
import Derived.Test.YtbomcadjkcmcgaaPureLog
import Derived.Test.YtbomcadjkcmcgaaZa4
namespace Go.Proofs.Ytbomcadjkcmcgaa.Pure
open Go.RowKit Go.Proofs.Ytbomcadjkcmcgaa.Print Go.Proofs.YtbomcadjkcmcgaaW.PrintWords Go.Proofs.YtbomcadjkcmcgaaW.PrintLast

theorem logOk_spec_loop (l : List S62) (c : Int) (hl : l.length ≤ 1048576) (M : Nat) (hM : ∀ x ∈ l, x.f2.length ≤ M) (hM2 : M ≤ 1000000000) : ∀ (d k i : Nat), i + d = l.length → d + M + 1 < k → spec_LogOk.l0 k i l c = some (decide (l.length ≤ 40) && decide (0 ≤ c ∧ c ≤ l.length) && (l.drop i).all (fun r => recB r.f0 r.f1 r.f2)) := by
  intro d
  induction d with
  | zero =>
    intro k i hi hk
    obtain ⟨k, rfl⟩ := lfuel (show 0 < k by omega)
    simp only [spec_LogOk.l0]
    rw [if_neg (by omega), List.drop_eq_nil_of_le (by omega)]
    simp only [in_spec, Option.bind_some]
    by_cases ha : (l.length : Int) ≤ 40
    · rw [if_pos ha]; simp; omega
    · rw [if_neg ha]
      have : ¬ l.length ≤ 40 := by omega
      simp [this]
  | succ d ih =>
    intro k i hi hk
    obtain ⟨k, rfl⟩ := lfuel (show 0 < k by omega)
    simp only [spec_LogOk.l0]
    have hil : i < l.length := by omega
    have hx := hM l[i] (List.getElem_mem hil)
    rw [if_pos (by omega), if_pos (by omega), w64 (n := (i : Int) + 1) (by omega) (by omega), li1, rdR hil, List.drop_eq_getElem_cons hil, recOk_spec _ _ _ (by omega) k (by omega), ih k (i + 1) (by omega) (by omega)]
    simp only [Option.bind_some, List.all_cons]
    by_cases h : recB l[i].f0 l[i].f1 l[i].f2 = true
    · rw [if_pos h, h, Bool.true_and]
    · rw [if_neg h, Bool.eq_false_iff.mpr h]; simp
theorem logOk_spec (l : List S62) (c : Int) (hl : l.length ≤ 1048576) (M : Nat) (hM : ∀ x ∈ l, x.f2.length ≤ M) (hM2 : M ≤ 1000000000) (k : Nat) (hk : l.length + M + 1 < k) : spec_LogOk.f k l c = some (logB l c) := by
  unfold spec_LogOk.f
  exact logOk_spec_loop l c hl M hM hM2 l.length k 0 (by omega) (by omega)

end Go.Proofs.Ytbomcadjkcmcgaa.Pure
