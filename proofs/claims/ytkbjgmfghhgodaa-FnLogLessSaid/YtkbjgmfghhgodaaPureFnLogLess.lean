/- What is left of a log is a log, a greater bound is none: of every code the law is true. Proved: the law's one pure statement. No condition. -/
import Derived.Test.YtkbjgmfghhgodaaPureDrawLog
import Derived.Test.YtkbjgmfghhgodaaZv2
namespace Go.Proofs.Ytkbjgmfghhgodaa.Pure
open Go.RowKit Go.Proofs.Ytkbjgmfghhgodaa.Print Go.Proofs.YtkbjgmfghhgodaaW.PrintWords Go.Proofs.YtkbjgmfghhgodaaW.PrintLast Go.Proofs.YtkbjgmfghhgodaaW.PrintMore

theorem drawLogOk_ex (k : Nat) (l : List Int) (h : ∀ x ∈ l, (Lit.int .u8 x).wf = true) (hk : 70 ≤ k) : Ex (spec_DrawLogOk.f k l) (fun r => r.1.length ≤ 42 ∧ Short r.1) := by
  unfold spec_DrawLogOk.f
  refine Ex.bind (open_ex l h) (fun r hr => ?_)
  refine Ex.bind (l71Log_ex k r.1 hr.1 _ (by omega) (by omega) hk) (fun s hs => ?_)
  refine Ex.bind (pick_ex _ r.1 hr.1 _ _ (by omega) (by omega) (by omega) (by omega) (by omega)) (fun t ht => ?_)
  exact Ex.ite (fun _ => Ex.bind (pick_ex _ r.1 hr.1 _ _ (by omega) (by omega) (by omega) (by omega) (by omega)) (fun _ _ => Ex.ret ⟨hs.1, hs.2.1⟩)) (fun _ => Ex.ret ⟨hs.1, hs.2.1⟩)
theorem logLess_j1 (k : Nat) (hk : 60 ≤ k) (m : List Int) (l : List S45) (c : Int) (hl : l.length ≤ 42) (hs : Short l) : Ex (laws_FnLogLess.j1 k m (logB l c) (!logB l c) l c) (fun r => r = true) := by
  obtain ⟨k, rfl⟩ := lfuel (show 0 < k by omega)
  simp only [laws_FnLogLess.j1]
  rw [logOk_spec l c (by omega) 4 hs (by omega) k (by omega), Option.bind_some]
  refine Ex.ite (fun _ => Ex.ret (by simp)) (fun h => ?_)
  have hB : logB l c = true := by simpa using h
  unfold logB at hB
  simp only [Bool.and_eq_true, decide_eq_true_eq] at hB
  obtain ⟨⟨h40, hc⟩, hall⟩ := hB
  rw [w64 (n := (l.length : Int) + 1) (by omega) (by omega), if_neg (by omega)]
  have e0 : 0 ≤ (m.length : Int) % ((l.length : Int) + 1) := Int.emod_nonneg _ (by omega)
  have e1 : (m.length : Int) % ((l.length : Int) + 1) < (l.length : Int) + 1 := Int.emod_lt_of_pos _ (by omega)
  generalize (m.length : Int) % ((l.length : Int) + 1) = n at e0 e1
  obtain ⟨n, rfl⟩ := Int.eq_ofNat_of_zero_le e0
  rw [if_pos e0, if_pos (by omega), Option.bind_some, w64 (by omega) (by omega), Int.toNat_natCast]
  simp only [logOk_impl, Option.bind_some]
  have hn : (l.take n).length = n := by rw [List.length_take]; omega
  have h1 : logB (l.take n) (mn n c) = true := by
    unfold logB
    simp only [Bool.and_eq_true, decide_eq_true_eq, hn]
    refine ⟨⟨by omega, ?_⟩, List.all_eq_true.mpr (fun x hx => List.all_eq_true.mp hall x (List.mem_of_mem_take hx))⟩
    unfold mn
    split <;> omega
  have h2 : logB (l.take n) ((n : Int) + 1) = false := by
    rw [Bool.eq_false_iff]
    unfold logB
    simp only [ne_eq, Bool.and_eq_true, decide_eq_true_eq, hn]
    rintro ⟨⟨_, h⟩, _⟩
    omega
  have h3 : logB l (-1) = false := by
    rw [Bool.eq_false_iff]
    unfold logB
    simp only [ne_eq, Bool.and_eq_true, decide_eq_true_eq]
    rintro ⟨⟨_, h⟩, _⟩
    omega
  rw [h1, h2, h3]
  exact ⟨true, by simp, rfl⟩
theorem FnLogLess : laws_FnLogLess.Pure := by
  intro l0 l1 _ _ h0 _ _ _
  refine ⟨80, Ex.some_ ?_⟩
  have hj : ∀ c : Bool, Ex (laws_FnLogLess.j0 80 l0 l1 c) (fun r => r = true) := by
    intro c
    simp only [laws_FnLogLess.j0]
    refine Ex.ite (fun _ => Ex.ret rfl) (fun _ => Ex.bind (drawLogOk_ex 79 l0 h0 (by omega)) (fun r hr => ?_))
    rw [logOk_impl, logOk_spec r.1 r.2 (by omega) 4 hr.2 (by omega) 79 (by omega)]
    simp only [Option.bind_some, bne_self_eq_false]
    rw [if_neg (by simp)]
    exact logLess_j1 79 (by omega) l1 r.1 r.2 hr.1 hr.2
  unfold laws_FnLogLess.f
  exact Ex.ite (fun _ => hj _) (fun _ => hj _)

end Go.Proofs.Ytkbjgmfghhgodaa.Pure
