/- Two records are the same just if their texts are (P3): of every two codes, whatever is drawn, the law is true. Proved: the law's one pure statement. No condition. -/
import Derived.Test.YtbcepmkifomifaaDoorPureTextR
import Derived.Test.YtbcepmkifomifaaDoorPureDrawRec
import Derived.Test.YtbcepmkifomifaaDoorPureLnInts
import Derived.Test.YtbcepmkifomifaaDoorZu0
namespace Go.Proofs.YtbcepmkifomifaaDoor.Pure
open Go.RowKit Go.Proofs.YtbcepmkifomifaaDoor.Print Go.Proofs.YtbcepmkifomifaaDoorW.PrintWords Go.Proofs.YtbcepmkifomifaaDoorW.PrintLast

theorem drawRecText_ex (k : Nat) (l : List Int) (h : ∀ x ∈ l, (Lit.int .u8 x).wf = true) (hk : 3 ≤ k) : Ex (spec_DrawRecText.f k l) (fun r => r.2.2.length ≤ 4) := by
  unfold spec_DrawRecText.f
  refine Ex.bind (open_ex l h) (fun r hr => ?_)
  refine Ex.bind (l71RecV_ex k r.1 hr.1 _ (by omega) (by omega) hk) (fun s hs => ?_)
  exact Ex.ret hs.1
theorem FnRecOne : laws_FnRecOne.Pure := by
  intro l0 l1 _ _ h0 _ _ h1
  refine ⟨30, Ex.some_ ?_⟩
  have key : ∀ x, Ex (laws_FnRecOne.j0 30 l0 l1 x) (fun x => x = true) := by
    intro x
    simp only [laws_FnRecOne.j0]
    refine Ex.ite (fun _ => Ex.ret rfl) (fun _ => ?_)
    refine Ex.bind (drawRecText_ex 29 l0 h0 (by omega)) (fun r hr => ?_)
    refine Ex.bind (drawRecText_ex 29 l1 h1 (by omega)) (fun s hs => ?_)
    obtain ⟨a, b, m⟩ := r
    obtain ⟨a', b', m'⟩ := s
    dsimp only at hr hs
    simp only [recText_impl, recText_spec 29 (by omega) a b m (by omega) (by omega), recText_spec 29 (by omega) a' b' m' (by omega) (by omega), Option.bind_some]
    rw [if_pos trivial, if_pos trivial]
    have j1 : ∀ z, (z = false → recB a b m = true ∧ recB a' b' m' = true) → Ex (laws_FnRecOne.j1 29 (rText a b m) (rText a' b' m') z a b m a' b' m') (fun x => x = true) := by
      intro z hz
      simp only [laws_FnRecOne.j1, recText_spec 28 (by omega) a b m (by omega) (by omega), recText_spec 28 (by omega) a' b' m' (by omega) (by omega), Option.bind_some]
      rw [lnRec_eq 28 a b m a' b' m' (by omega) (by omega)]
      refine Ex.ite (fun _ => Ex.ite (fun _ => Ex.ret (by simp)) (fun h => absurd trivial h)) (fun hn => Ex.bindS (Ex.ret ?_))
      obtain ⟨h, h'⟩ := hz (by simpa using hn)
      rw [beq_iff_eq, Bool.eq_iff_iff, beq_iff_eq, decide_eq_true_eq]
      constructor
      · intro e
        have e := bytesR_eq e
        unfold rText at e
        rw [if_pos h, if_pos h'] at e
        have := rT_inj h h' e
        simpa using this
      · rintro ⟨rfl, rfl, rfl⟩; rfl
    refine Ex.ite (fun _ => j1 _ (fun e => by cases e)) (fun hne => j1 _ (fun e => ⟨?_, ?_⟩))
    · rw [rText_empty] at hne; simpa using hne
    · have : ¬ (rText a' b' m').toList = [] := by simpa using e
      rw [rText_empty] at this; simpa using this
  unfold laws_FnRecOne.f
  exact Ex.ite (fun _ => key _) (fun _ => key _)

end Go.Proofs.YtbcepmkifomifaaDoor.Pure
