/- Two words are the same just if their texts are (P27): of every two codes, whatever is drawn, the law is true. Proved: the law's one pure statement. No condition. -/
import Derived.Test.YtbcepmkifomifaaDoorPureTextW
import Derived.Test.YtbcepmkifomifaaDoorZs0
namespace Go.Proofs.YtbcepmkifomifaaDoor.Pure
open Go.RowKit Go.Proofs.YtbcepmkifomifaaDoor.Print Go.Proofs.YtbcepmkifomifaaDoorW.PrintWords Go.Proofs.YtbcepmkifomifaaDoorW.PrintLast

theorem drawWordText_ex (k : Nat) (l : List Int) (h : ∀ x ∈ l, (Lit.int .u8 x).wf = true) (hk : 3 ≤ k) : Ex (spec_DrawWordText.f k l) (fun _ => True) := by
  unfold spec_DrawWordText.f
  refine Ex.bind (open_ex l h) (fun r hr => ?_)
  refine Ex.bind (l71Word_ex k r.1 hr.1 _ (by omega) (by omega) (by omega)) (fun s hs => ?_)
  exact Ex.ret trivial
theorem FnWordOne : laws_FnWordOne.Pure := by
  intro l0 l1 _ _ h0 _ _ h1
  refine ⟨20, Ex.some_ ?_⟩
  have key : ∀ x, Ex (laws_FnWordOne.j0 20 l0 l1 x) (fun x => x = true) := by
    intro x
    simp only [laws_FnWordOne.j0]
    refine Ex.ite (fun _ => Ex.ret rfl) (fun _ => ?_)
    refine Ex.bind (drawWordText_ex 19 l0 h0 (by omega)) (fun r _ => ?_)
    refine Ex.bind (drawWordText_ex 19 l1 h1 (by omega)) (fun s _ => ?_)
    obtain ⟨a, b, c, d⟩ := r
    obtain ⟨a', b', c', d'⟩ := s
    simp only [wordText_impl, wordText_spec 19 (by omega), Option.bind_some]
    rw [if_pos trivial, if_pos trivial]
    have j1 : ∀ z, (z = false → wordB a b c d = true ∧ wordB a' b' c' d' = true) → Ex (laws_FnWordOne.j1 19 (wText a b c d) (wText a' b' c' d') z a b c d a' b' c' d') (fun x => x = true) := by
      intro z hz
      simp only [laws_FnWordOne.j1, wordText_spec 18 (by omega), Option.bind_some]
      refine Ex.ite (fun _ => Ex.ite (fun _ => Ex.ret (by simp)) (fun h => absurd trivial h)) (fun hn => Ex.ret ?_)
      obtain ⟨h, h'⟩ := hz (by simpa using hn)
      rw [beq_iff_eq, Bool.eq_iff_iff, beq_iff_eq]
      simp only [Bool.and_eq_true, beq_iff_eq]
      constructor
      · intro e
        have e := bytes_eq e
        unfold wText at e
        rw [if_pos h, if_pos h'] at e
        have := wT_inj h h' e
        simpa using this
      · rintro ⟨rfl, rfl, rfl, rfl⟩; rfl
    refine Ex.ite (fun _ => j1 _ (fun e => by cases e)) (fun hne => j1 _ (fun e => ⟨?_, ?_⟩))
    · rw [wText_empty] at hne; simpa using hne
    · have : ¬ (wText a' b' c' d').toList = [] := by simpa using e
      rw [wText_empty] at this; simpa using this
  unfold laws_FnWordOne.f
  exact Ex.ite (fun _ => key _) (fun _ => key _)

end Go.Proofs.YtbcepmkifomifaaDoor.Pure
