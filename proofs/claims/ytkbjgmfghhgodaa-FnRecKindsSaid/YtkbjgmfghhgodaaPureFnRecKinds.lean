/- What one kind of record has another one has not (P12): of every two codes, whatever is drawn, the law is true. Proved: the law's one pure statement. No condition. -/
import Derived.Test.YtkbjgmfghhgodaaPureRec
import Derived.Test.YtkbjgmfghhgodaaPureDrawRec
import Derived.Test.YtkbjgmfghhgodaaPrint20
namespace Go.Proofs.Ytkbjgmfghhgodaa.Pure
open Go.RowKit Go.Proofs.Ytkbjgmfghhgodaa.Print Go.Proofs.YtkbjgmfghhgodaaW.PrintWords Go.Proofs.YtkbjgmfghhgodaaW.PrintLast

theorem drawRecOk_ex (k : Nat) (l : List Int) (h : ∀ x ∈ l, (Lit.int .u8 x).wf = true) (hk : 3 ≤ k) : Ex (spec_DrawRecOk.f k l) (fun r => r.2.2.length ≤ 4) := by
  unfold spec_DrawRecOk.f
  refine Ex.bind (open_ex l h) (fun r hr => ?_)
  refine Ex.bind (l71RecV_ex k r.1 hr.1 _ (by omega) (by omega) hk) (fun s hs => ?_)
  refine Ex.bind (pick_ex _ r.1 hr.1 _ _ (by omega) (by omega) (by omega) (by omega) (by omega)) (fun t ht => ?_)
  exact Ex.ite (fun _ => Ex.bind (pick_ex _ r.1 hr.1 _ _ (by omega) (by omega) (by omega) (by omega) (by omega)) (fun _ _ => Ex.ret hs.1)) (fun _ => Ex.ret hs.1)
theorem kind_same {a c b : Int} {m : List Int} (h : recB a b m = true) (hc : 1 ≤ c) (hc7 : c ≤ 7) : recB c b m = decide (c = a ∨ (a ≠ 1 ∧ a ≠ 4 ∧ c ≠ 1 ∧ c ≠ 4)) := by
  unfold recB at h ⊢
  rw [Bool.and_eq_true, decide_eq_true_eq] at h
  obtain ⟨h1, h2⟩ := h
  have hd : decide (1 ≤ b ∧ b ≤ 6 ∧ 1 ≤ c ∧ c ≤ 7) = true := by rw [decide_eq_true_eq]; omega
  rw [hd, Bool.true_and]
  have many3 : manyB m = true → m.length = 3 := fun h => by simp only [manyB, decide_eq_true_eq] at h; exact h.1
  have len3 : ∀ n, n ≠ 3 → m.length = n → manyB m = false := fun n hn hl => by
    rw [Bool.eq_false_iff]; intro hm; have := many3 hm; omega
  by_cases a1 : a = 1
  · rw [if_pos a1] at h2
    have h3 : m.length = 1 := by simp at h2; exact h2.1
    by_cases c1 : c = 1
    · rw [if_pos c1, h2]; symm; rw [decide_eq_true_eq]; omega
    · rw [if_neg c1]
      by_cases c4 : c = 4
      · rw [if_pos c4, len3 1 (by omega) h3]; symm; rw [decide_eq_false_iff_not]; omega
      · rw [if_neg c4]; rw [Bool.eq_iff_iff, decide_eq_true_eq, decide_eq_true_eq]; omega
  · rw [if_neg a1] at h2
    by_cases a4 : a = 4
    · rw [if_pos a4] at h2
      have h3 := many3 h2
      by_cases c1 : c = 1
      · rw [if_pos c1]; rw [Bool.eq_iff_iff, decide_eq_true_eq, decide_eq_true_eq]; omega
      · rw [if_neg c1]
        by_cases c4 : c = 4
        · rw [if_pos c4, h2]; symm; rw [decide_eq_true_eq]; omega
        · rw [if_neg c4]; rw [Bool.eq_iff_iff, decide_eq_true_eq, decide_eq_true_eq]; omega
    · rw [if_neg a4] at h2
      have h3 : m.length = 0 := by simpa using h2
      by_cases c1 : c = 1
      · rw [if_pos c1]; rw [Bool.eq_iff_iff, decide_eq_true_eq, decide_eq_true_eq]; omega
      · rw [if_neg c1]
        by_cases c4 : c = 4
        · rw [if_pos c4, len3 0 (by omega) h3]; symm; rw [decide_eq_false_iff_not]; omega
        · rw [if_neg c4]; rw [Bool.eq_iff_iff, decide_eq_true_eq, decide_eq_true_eq]; omega
theorem FnRecKinds : laws_FnRecKinds.Pure := by
  intro l0 l1 _ _ h0 _ _ _
  refine ⟨20, Ex.some_ ?_⟩
  have key : ∀ x, Ex (laws_FnRecKinds.j0 20 l0 l1 x) (fun x => x = true) := by
    intro x
    simp only [laws_FnRecKinds.j0]
    refine Ex.ite (fun _ => Ex.ret rfl) (fun _ => ?_)
    refine Ex.bind (drawRecOk_ex 19 l0 h0 (by omega)) (fun r hr => ?_)
    obtain ⟨a, b, m⟩ := r
    dsimp only at hr
    simp only [recOk_impl, recOk_spec a b m (by omega) 19 (by omega), Option.bind_some]
    refine Ex.ite (fun h => by simp at h) (fun _ => ?_)
    have m7 : 0 ≤ (l1.length : Int) % 7 ∧ (l1.length : Int) % 7 < 7 := ⟨Int.emod_nonneg _ (by omega), Int.emod_lt_of_pos _ (by omega)⟩
    generalize (l1.length : Int) % 7 = c at m7
    simp only [laws_FnRecKinds.j1, recOk_impl, recOk_spec a b m (by omega) 18 (by omega), Option.bind_some]
    refine Ex.ite (fun h => Ex.ret (by simp)) (fun h => ?_)
    have hB : recB a b m = true := by simpa using h
    rw [kind_same hB (by omega) (by omega)]
    refine Ex.ite (fun a1 => Ex.ite (fun c1 => Ex.ite (fun e => Ex.ret ?_) (fun e => Ex.ret ?_)) (fun c1 => Ex.ite (fun e => Ex.ret ?_) (fun e => Ex.ret ?_))) (fun a1 => Ex.ite (fun c1 => Ex.ite (fun e => Ex.ret ?_) (fun e => Ex.ite (fun a4 => Ex.ret ?_) (fun a4 => Ex.ret ?_))) (fun c1 => Ex.ite (fun e => Ex.ret ?_) (fun e => Ex.ite (fun a4 => Ex.ret ?_) (fun a4 => Ex.ret ?_))))
    all_goals (rw [beq_iff_eq, Bool.eq_iff_iff, decide_eq_true_eq]; first | (simp; done) | (simp; omega) | omega)
  unfold laws_FnRecKinds.f
  exact Ex.ite (fun _ => key _) (fun _ => key _)

end Go.Proofs.Ytkbjgmfghhgodaa.Pure
