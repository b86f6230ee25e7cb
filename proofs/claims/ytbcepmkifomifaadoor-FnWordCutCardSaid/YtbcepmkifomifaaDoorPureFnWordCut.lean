/- What is cut is another word, or none (P29): of every code, whatever is drawn, the law is true. Proved: the law's one pure statement. No condition. -/
import Derived.Test.YtbcepmkifomifaaDoorPureReadW
import Derived.Test.YtbcepmkifomifaaDoorZx0
namespace Go.Proofs.YtbcepmkifomifaaDoor.Pure
open Go.RowKit Go.Proofs.YtbcepmkifomifaaDoor.Print Go.Proofs.YtbcepmkifomifaaDoorW.PrintWords Go.Proofs.YtbcepmkifomifaaDoorW.PrintLast

theorem drawWordText_ex (k : Nat) (l : List Int) (h : ∀ x ∈ l, (Lit.int .u8 x).wf = true) (hk : 3 ≤ k) : Ex (spec_DrawWordText.f k l) (fun _ => True) := by
  unfold spec_DrawWordText.f
  refine Ex.bind (open_ex l h) (fun r hr => ?_)
  refine Ex.bind (l71Word_ex k r.1 hr.1 _ (by omega) (by omega) (by omega)) (fun s hs => ?_)
  exact Ex.ret trivial
set_option maxRecDepth 100000 in
theorem words_ends : (words.all fun w => decide ((wT w.1 w.2.1 w.2.2.1 w.2.2.2).data.toList.head? ≠ some 32) && decide ((wT w.1 w.2.1 w.2.2.1 w.2.2.2).data.toList.getLast? ≠ some 32) && decide (1 ≤ (wT w.1 w.2.1 w.2.2.1 w.2.2.2).size) && decide ((wT w.1 w.2.1 w.2.2.1 w.2.2.2).size ≤ 20)) = true := by decide +kernel
theorem word_ends {a b c d : Int} (h : wordB a b c d = true) : (wT a b c d).data.toList.head? ≠ some 32 ∧ (wT a b c d).data.toList.getLast? ≠ some 32 ∧ 1 ≤ (wT a b c d).size ∧ (wT a b c d).size ≤ 20 := by
  have := List.all_eq_true.1 words_ends _ (words_mem h)
  simp only [Bool.and_eq_true, decide_eq_true_eq] at this
  exact ⟨this.1.1.1, this.1.1.2, this.1.2, this.2⟩
theorem FnWordCut : laws_FnWordCut.Pure := by
  intro l0 _ _ h0
  refine ⟨30, Ex.some_ ?_⟩
  unfold laws_FnWordCut.f
  refine Ex.ite (fun _ => Ex.ret rfl) (fun _ => ?_)
  refine Ex.bind (drawWordText_ex 30 l0 h0 (by omega)) (fun r _ => ?_)
  obtain ⟨a, b, c, d⟩ := r
  simp only [wordText_impl, wordText_spec 30 (by omega), Option.bind_some]
  rw [if_pos trivial]
  simp only [laws_FnWordCut.j0, wordText_spec 29 (by omega), Option.bind_some]
  refine Ex.ite (fun _ => Ex.ret (by simp)) (fun hn => ?_)
  have hn : ¬ (wText a b c d).toList = [] := by simpa using hn
  rw [wText_empty] at hn
  have hB : wordB a b c d = true := by simpa using hn
  have e : wText a b c d = wT a b c d := by unfold wText; rw [if_pos hB]
  rw [e]
  obtain ⟨e1, e2, e3, e4⟩ := word_ends hB
  have ew : wrap64 (((wT a b c d).size : Int) - 1) = ((wT a b c d).size : Int) - 1 := w64 (by omega) (by omega)
  rw [ew]
  refine Ex.ite (fun _ => Ex.ite (fun _ => ?_) (fun h => by omega)) (fun h => by omega)
  refine Ex.bind (wordRead_impl 29 (by omega) _ (by rw [ByteArray.size_extract]; omega)) (fun x hx => ?_)
  refine Ex.ite (fun _ => ?_) (fun h => by omega)
  refine Ex.bind (wordRead_impl 29 (by omega) _ (by rw [ByteArray.size_append]; show _ + 1 ≤ _; omega)) (fun y hy => ?_)
  refine Ex.ite (fun _ => ?_) (fun h => by omega)
  refine Ex.bind (wordRead_impl 29 (by omega) _ (by rw [ByteArray.size_append]; show 1 + _ ≤ _; omega)) (fun z hz => ?_)
  have y0 : y.2.2.2.2 = false := by
    rcases hy with ⟨_, h2, h3⟩ | ⟨h1, _⟩
    · exfalso
      have := (word_ends h2).2.1
      rw [← h3, ByteArray.data_append] at this
      simp at this
    · rw [h1]
  have z0 : z.2.2.2.2 = false := by
    rcases hz with ⟨_, h2, h3⟩ | ⟨h1, _⟩
    · exfalso
      have := (word_ends h2).1
      rw [← h3, ByteArray.data_append] at this
      simp at this
    · rw [h1]
  have x0 : x.2.2.2.2 = true → (!(x.1 == a) || (!(x.2.1 == b) || (!(x.2.2.1 == c) || (!(x.2.2.2.1 == d))))) = true := by
    intro ht
    rcases hx with ⟨_, h2, h3⟩ | ⟨h1, _⟩
    · by_cases hall : (x.1, x.2.1, x.2.2.1, x.2.2.2.1) = (a, b, c, d)
      · exfalso
        simp only [Prod.mk.injEq] at hall
        obtain ⟨q1, q2, q3, q4⟩ := hall
        rw [q1, q2, q3, q4] at h3
        have := congrArg ByteArray.size h3
        rw [ByteArray.size_extract] at this
        omega
      · simp only [Prod.mk.injEq] at hall
        simp only [Bool.or_eq_true, Bool.not_eq_true', beq_eq_false_iff_ne]
        by_cases q1 : x.1 = a <;> by_cases q2 : x.2.1 = b <;> by_cases q3 : x.2.2.1 = c <;> by_cases q4 : x.2.2.2.1 = d <;> simp_all
    · rw [h1] at ht; cases ht
  rw [y0, z0]
  refine Ex.ite (fun ht => Ex.ite (fun _ => Ex.ite (fun h => by cases h) (fun _ => Ex.ret rfl)) (fun h => absurd (x0 ht) h)) (fun _ => Ex.ite (fun h => by cases h) (fun _ => Ex.ret rfl))

end Go.Proofs.YtbcepmkifomifaaDoor.Pure
