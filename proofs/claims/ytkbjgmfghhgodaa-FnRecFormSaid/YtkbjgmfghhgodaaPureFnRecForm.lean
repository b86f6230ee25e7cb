/- A record has what its kind has (P4): of every code, whatever is drawn, the law is true. Proved: the law's one pure statement. No condition. -/
import Derived.Test.YtkbjgmfghhgodaaPureRec
import Derived.Test.YtkbjgmfghhgodaaPureDrawRec
import Derived.Test.YtkbjgmfghhgodaaPrint19
namespace Go.Proofs.Ytkbjgmfghhgodaa.Pure
open Go.RowKit Go.Proofs.Ytkbjgmfghhgodaa.Print Go.Proofs.YtkbjgmfghhgodaaW.PrintWords Go.Proofs.YtkbjgmfghhgodaaW.PrintLast

theorem drawRecOk_ex (k : Nat) (l : List Int) (h : ∀ x ∈ l, (Lit.int .u8 x).wf = true) (hk : 3 ≤ k) : Ex (spec_DrawRecOk.f k l) (fun r => r.2.2.length ≤ 4) := by
  unfold spec_DrawRecOk.f
  refine Ex.bind (open_ex l h) (fun r hr => ?_)
  refine Ex.bind (l71RecV_ex k r.1 hr.1 _ (by omega) (by omega) hk) (fun s hs => ?_)
  refine Ex.bind (pick_ex _ r.1 hr.1 _ _ (by omega) (by omega) (by omega) (by omega) (by omega)) (fun t ht => ?_)
  exact Ex.ite (fun _ => Ex.bind (pick_ex _ r.1 hr.1 _ _ (by omega) (by omega) (by omega) (by omega) (by omega)) (fun _ _ => Ex.ret hs.1)) (fun _ => Ex.ret hs.1)
/-- The sum of what a record wants, as the law reckons it. -/
theorem recForm_loop (a b : Int) (m : List Int) (hl : m.length ≤ 1000000) (hm : ∀ x ∈ m, 0 ≤ x ∧ x ≤ 3) (Q : Bool → Prop)
    (hend : ∀ (k : Nat) (s : Int), 1 ≤ k → (s > 0 ↔ ∃ x ∈ m, x ≠ 0) → Ex (laws_FnRecForm.l0 k s m.length a b m) Q) :
    ∀ (d k i : Nat) (s : Int), i + d = m.length → d + 1 ≤ k → 0 ≤ s → s ≤ 3 * i → (s > 0 ↔ ∃ j, j < i ∧ rd m (j : Nat) ≠ 0) → Ex (laws_FnRecForm.l0 k s i a b m) Q := by
  have hrd : ∀ j : Nat, j < m.length → rd m (j : Nat) ∈ m := fun j hj => by
    have : rd m (j : Nat) = m[j] := by simp [rd, List.getD_eq_getElem?_getD, List.getElem?_eq_getElem hj]
    rw [this]; exact List.getElem_mem hj
  intro d
  induction d with
  | zero =>
    intro k i s hi hk h0 h1 hs
    have : i = m.length := by omega
    subst this
    refine hend k s (by omega) (hs.trans ⟨fun ⟨j, hj, hn⟩ => ⟨_, hrd j hj, hn⟩, fun ⟨x, hx, hn⟩ => ?_⟩)
    obtain ⟨j, hj, rfl⟩ := List.getElem_of_mem hx
    have : rd m (j : Nat) = m[j] := by simp [rd, List.getD_eq_getElem?_getD, List.getElem?_eq_getElem hj]
    exact ⟨j, hj, by rw [this]; exact hn⟩
  | succ d ih =>
    intro k i s hi hk h0 h1 hs
    obtain ⟨k, rfl⟩ : ∃ m, k = m + 1 := ⟨k - 1, by omega⟩
    simp only [laws_FnRecForm.l0]
    have hx := hm _ (hrd i (by omega))
    rw [if_pos (by omega), if_pos (by omega), w64 (n := s + rd m (i : Nat)) (by omega) (by omega), w64 (by omega) (by omega)]
    have e : ((i : Nat) : Int) + 1 = ((i + 1 : Nat) : Int) := by omega
    rw [e]
    refine ih k (i + 1) _ (by omega) (by omega) (by omega) (by omega) ⟨fun hp => ?_, fun ⟨j, hj, hn⟩ => ?_⟩
    · by_cases hz : rd m (i : Nat) = 0
      · obtain ⟨j, hj, hn⟩ := hs.mp (by omega)
        exact ⟨j, by omega, hn⟩
      · exact ⟨i, by omega, hz⟩
    · by_cases hji : j = i
      · subst hji
        clear hs ih hend
        omega
      · have hpos := hs.mpr ⟨j, by omega, hn⟩
        clear hs ih hend hn
        omega
theorem rec_many {a b : Int} {m : List Int} (h : recB a b m = true) : 1 ≤ a ∧ a ≤ 7 ∧ 1 ≤ b ∧ b ≤ 6 ∧ (a = 1 → m.length = 1 ∧ 1 ≤ rd m 0 ∧ rd m 0 ≤ 3) ∧ (a = 4 → manyB m = true) ∧ (a ≠ 1 → a ≠ 4 → m.length = 0) := by
  unfold recB at h
  rw [Bool.and_eq_true, decide_eq_true_eq] at h
  obtain ⟨h1, h2⟩ := h
  refine ⟨by omega, by omega, by omega, by omega, fun e => ?_, fun e => ?_, fun e1 e4 => ?_⟩
  · rw [if_pos e] at h2; simpa using h2
  · rw [if_neg (by omega), if_pos e] at h2; exact h2
  · rw [if_neg e1, if_neg e4] at h2; simpa using h2
theorem rec_more {a b : Int} {m : List Int} (h : recB a b m = true) : recB a b (m ++ [1]) = false := by
  obtain ⟨h1, h2, h3, h4, h5, h6, h7⟩ := rec_many h
  rw [Bool.eq_false_iff]
  intro hc
  obtain ⟨_, _, _, _, g5, g6, g7⟩ := rec_many hc
  simp only [List.length_append, List.length_singleton] at g5 g7
  by_cases e1 : a = 1
  · have := h5 e1; have := g5 e1; omega
  · by_cases e4 : a = 4
    · have p := h6 e4; have q := g6 e4
      simp only [manyB, decide_eq_true_eq, List.length_append, List.length_singleton] at p q
      omega
    · have := h7 e1 e4; have := g7 e1 e4; omega
theorem FnRecForm : laws_FnRecForm.Pure := by
  intro l0 _ _ h0
  refine ⟨20, Ex.some_ ?_⟩
  unfold laws_FnRecForm.f
  refine Ex.ite (fun _ => Ex.ret rfl) (fun _ => ?_)
  refine Ex.bind (drawRecOk_ex 20 l0 h0 (by omega)) (fun r hr => ?_)
  obtain ⟨a, b, m⟩ := r
  dsimp only at hr
  simp only [recOk_impl, recOk_spec a b m (by omega) 20 (by omega), Option.bind_some]
  refine Ex.ite (fun h => by simp at h) (fun _ => ?_)
  simp only [laws_FnRecForm.j0, recOk_spec a b m (by omega) 19 (by omega), Option.bind_some]
  refine Ex.ite (fun h => Ex.ret (by simp)) (fun h => ?_)
  have hB : recB a b m = true := by simpa using h
  obtain ⟨h1, h2, h3, h4, h5, h6, h7⟩ := rec_many hB
  have hm : ∀ x ∈ m, 0 ≤ x ∧ x ≤ 3 := by
    intro x hx
    by_cases e1 : a = 1
    · obtain ⟨q1, q2, q3⟩ := h5 e1
      match m, q1 with
      | [y], _ => simp [rd] at q2 q3; simp at hx; omega
    · by_cases e4 : a = 4
      · have := h6 e4
        simp only [manyB, decide_eq_true_eq] at this
        exact this.2.1 x hx
      · have := List.eq_nil_of_length_eq_zero (h7 e1 e4)
        subst this
        simp at hx
  refine recForm_loop a b m (by omega) hm _ ?_ m.length 19 0 0 (by omega) (by omega) (by omega) (by omega) ⟨fun h => by omega, fun ⟨j, hj, _⟩ => by omega⟩
  intro k s hk hs
  obtain ⟨k, rfl⟩ : ∃ m, k = m + 1 := ⟨k - 1, by omega⟩
  simp only [laws_FnRecForm.l0]
  rw [if_neg (by omega)]
  refine Ex.bindS ?_
  refine Ex.ite (fun _ => Ex.ite (fun _ => ?_) (fun h => by simp at h; omega)) (fun h => by omega)
  refine Ex.bindS ?_
  refine Ex.ite (fun _ => ?_) (fun h => by simp at h; omega)
  refine Ex.bindS ?_
  refine Ex.ite (fun _ => ?_) (fun h => by simp at h; omega)
  refine Ex.bindS ?_
  simp only [List.nil_append, recOk_impl, rec_more hB, Option.bind_some, Bool.not_false]
  have hcase : a = 1 ∨ a = 4 ∨ (a ≠ 1 ∧ a ≠ 4) := by omega
  rcases hcase with e | e | ⟨e1, e4⟩
  · obtain ⟨q1, q2, q3⟩ := h5 e
    subst e
    have e2 : rd [0, 1, 0, 0, 3, 0, 0, 0] 1 = 1 := by decide
    rw [e2, if_pos (by omega), if_neg (by omega)]
    refine Ex.ite (fun _ => Ex.ret rfl) (fun h => absurd (hs.mpr ?_) h)
    match m, q1 with
    | [y], _ => simp [rd] at q2 q3; exact ⟨y, by simp, by omega⟩
  · have q := h6 e
    subst e
    simp only [manyB, decide_eq_true_eq] at q
    have e2 : rd [0, 1, 0, 0, 3, 0, 0, 0] 4 = 3 := by decide
    rw [e2, if_pos (by omega), if_neg (by omega)]
    exact Ex.ite (fun _ => Ex.ret rfl) (fun h => absurd (hs.mpr q.2.2) h)
  · have q := h7 e1 e4
    have e2 : rd [0, 1, 0, 0, 3, 0, 0, 0] a = 0 := by
      have : a = 2 ∨ a = 3 ∨ a = 5 ∨ a = 6 ∨ a = 7 := by omega
      rcases this with rfl | rfl | rfl | rfl | rfl <;> decide
    rw [e2, if_pos (by omega), if_pos rfl]
    exact Ex.ret rfl

end Go.Proofs.Ytkbjgmfghhgodaa.Pure
