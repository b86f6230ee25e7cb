/- Just who holds tells how many (P28): of every code, whatever is drawn, the law is true. Proved: the law's one pure statement. No condition. -/
import Derived.Test.YtkbjgmfghhgodaaPureWord
import Derived.Test.YtkbjgmfghhgodaaPrint5
namespace Go.Proofs.Ytkbjgmfghhgodaa.Pure
open Go.RowKit Go.Proofs.Ytkbjgmfghhgodaa.Print Go.Proofs.YtkbjgmfghhgodaaW.PrintWords Go.Proofs.YtkbjgmfghhgodaaW.PrintLast

theorem drawWordOk_ex (k : Nat) (l : List Int) (h : ∀ x ∈ l, (Lit.int .u8 x).wf = true) (hk : 2 ≤ k) : Ex (spec_DrawWordOk.f k l) (fun _ => True) := by
  unfold spec_DrawWordOk.f
  refine Ex.bind (open_ex l h) (fun r hr => ?_)
  refine Ex.bind (l71Word_ex k r.1 hr.1 _ (by omega) (by omega) hk) (fun s hs => ?_)
  refine Ex.bind (pick_ex _ r.1 hr.1 _ _ (by omega) (by omega) (by omega) (by omega) (by omega)) (fun t ht => ?_)
  exact Ex.ite (fun _ => Ex.bind (pick_ex _ r.1 hr.1 _ _ (by omega) (by omega) (by omega) (by omega) (by omega)) (fun _ _ => Ex.ret trivial)) (fun _ => Ex.ret trivial)
theorem FnWordForm : laws_FnWordForm.Pure := by
  intro l0 l1 _ _ h0 _ _ _
  refine ⟨5, Ex.some_ ?_⟩
  have key : ∀ b, Ex (laws_FnWordForm.j0 5 l0 l1 b) (fun x => x = true) := by
    intro b
    simp only [laws_FnWordForm.j0]
    refine Ex.ite (fun _ => Ex.ret rfl) (fun _ => ?_)
    refine Ex.bind (drawWordOk_ex 4 l0 h0 (by omega)) (fun r _ => ?_)
    obtain ⟨a, b, c, d⟩ := r
    simp only [wordOk_impl, wordOk_spec 4 (by omega), Option.bind_some]
    refine Ex.ite (fun h => by simp at h) (fun _ => ?_)
    simp only [laws_FnWordForm.j1, wordOk_impl, wordOk_spec 3 (by omega), Option.bind_some]
    refine Ex.ite (fun h => Ex.ret (by simp)) (fun h => ?_)
    have hw : wordB a b c d = true := by simpa using h
    have m3 : 0 ≤ (l1.length : Int) % 3 ∧ (l1.length : Int) % 3 < 3 := ⟨Int.emod_nonneg _ (by omega), Int.emod_lt_of_pos _ (by omega)⟩
    have m6 : 0 ≤ (l1.length : Int) % 6 ∧ (l1.length : Int) % 6 < 6 := ⟨Int.emod_nonneg _ (by omega), Int.emod_lt_of_pos _ (by omega)⟩
    simp only [wordB, decide_eq_true_eq] at hw
    refine Ex.ite (fun _ => Ex.ite (fun h => ?_) (fun _ => Ex.ite (fun h => ?_) (fun _ => Ex.ret ?_))) (fun h => ?_)
    · simp only [wordB, decide_eq_true_eq] at h; omega
    · simp only [wordB, decide_eq_true_eq] at h; omega
    · rw [beq_iff_eq, Bool.eq_iff_iff]; simp; omega
    · exact absurd (by simp only [wordB, decide_eq_true_eq]; omega) h
  unfold laws_FnWordForm.f
  exact Ex.ite (fun _ => key _) (fun _ => key _)

end Go.Proofs.Ytkbjgmfghhgodaa.Pure
