/- What is cut is another record, or none (P9): of every code, whatever is drawn, the law is true. Proved: the law's one pure statement. No condition. -/
import Derived.Test.YtbcepmkifomifaaDoorPureReadR
import Derived.Test.YtbcepmkifomifaaDoorPureDrawRec
import Derived.Test.YtbcepmkifomifaaDoorPureLnInts
import Derived.Test.YtbcepmkifomifaaDoorZi0
namespace Go.Proofs.YtbcepmkifomifaaDoor.Pure
open Go.RowKit Go.Proofs.YtbcepmkifomifaaDoor.Print Go.Proofs.YtbcepmkifomifaaDoorW.PrintWords Go.Proofs.YtbcepmkifomifaaDoorW.PrintLast

theorem drawRecText_ex (k : Nat) (l : List Int) (h : ∀ x ∈ l, (Lit.int .u8 x).wf = true) (hk : 3 ≤ k) : Ex (spec_DrawRecText.f k l) (fun r => r.2.2.length ≤ 4) := by
  unfold spec_DrawRecText.f
  refine Ex.bind (open_ex l h) (fun r hr => ?_)
  refine Ex.bind (l71RecV_ex k r.1 hr.1 _ (by omega) (by omega) hk) (fun s hs => ?_)
  exact Ex.ret hs.1
set_option maxRecDepth 100000 in
theorem recs_ends : (recs.all fun w => decide ((rT w.1 w.2.1 w.2.2).data.toList.head? ≠ some 32) && decide ((rT w.1 w.2.1 w.2.2).data.toList.getLast? ≠ some 32) && decide (1 ≤ (rT w.1 w.2.1 w.2.2).size) && decide ((rT w.1 w.2.1 w.2.2).size ≤ 20)) = true := by decide +kernel
theorem rec_ends {a b : Int} {m : List Int} (h : recB a b m = true) : (rT a b m).data.toList.head? ≠ some 32 ∧ (rT a b m).data.toList.getLast? ≠ some 32 ∧ 1 ≤ (rT a b m).size ∧ (rT a b m).size ≤ 20 := by
  have := List.all_eq_true.1 recs_ends _ (recs_mem h)
  simp only [Bool.and_eq_true, decide_eq_true_eq] at this
  exact ⟨this.1.1.1, this.1.1.2, this.1.2, this.2⟩
theorem FnRecCut : laws_FnRecCut.Pure := by
  intro l0 _ _ h0
  refine ⟨30, Ex.some_ ?_⟩
  unfold laws_FnRecCut.f
  refine Ex.ite (fun _ => Ex.ret rfl) (fun _ => ?_)
  refine Ex.bind (drawRecText_ex 30 l0 h0 (by omega)) (fun r hr => ?_)
  obtain ⟨a, b, m⟩ := r
  dsimp only at hr
  simp only [recText_impl, recText_spec 30 (by omega) a b m (by omega) (by omega), Option.bind_some]
  rw [if_pos trivial]
  simp only [laws_FnRecCut.j0, recText_spec 29 (by omega) a b m (by omega) (by omega), Option.bind_some]
  refine Ex.ite (fun _ => Ex.ret (by simp)) (fun hn => ?_)
  have hn : ¬ (rText a b m).toList = [] := by simpa using hn
  rw [rText_empty] at hn
  have hB : recB a b m = true := by simpa using hn
  have e : rText a b m = rT a b m := by unfold rText; rw [if_pos hB]
  rw [e]
  obtain ⟨e1, e2, e3, e4⟩ := rec_ends hB
  have ew : wrap64 (((rT a b m).size : Int) - 1) = ((rT a b m).size : Int) - 1 := w64 (by omega) (by omega)
  rw [ew]
  refine Ex.ite (fun _ => Ex.ite (fun _ => ?_) (fun h => by omega)) (fun h => by omega)
  refine Ex.bind (recRead_impl 29 (by omega) _ (by rw [ByteArray.size_extract]; omega)) (fun x hx => ?_)
  refine Ex.ite (fun _ => ?_) (fun h => by omega)
  refine Ex.bind (recRead_impl 29 (by omega) _ (by rw [ByteArray.size_append]; show _ + 1 ≤ _; omega)) (fun y hy => ?_)
  refine Ex.ite (fun _ => ?_) (fun h => by omega)
  refine Ex.bind (recRead_impl 29 (by omega) _ (by rw [ByteArray.size_append]; show 1 + _ ≤ _; omega)) (fun z hz => ?_)
  have y0 : y.2.2.2 = false := by
    rcases hy with ⟨_, h2, h3⟩ | ⟨h1, _⟩
    · exfalso
      have := (rec_ends h2).2.1
      rw [← h3, ByteArray.data_append] at this
      simp at this
    · rw [h1]
  have z0 : z.2.2.2 = false := by
    rcases hz with ⟨_, h2, h3⟩ | ⟨h1, _⟩
    · exfalso
      have := (rec_ends h2).1
      rw [← h3, ByteArray.data_append] at this
      simp at this
    · rw [h1]
  have hlen := hx.len
  have x0 : x.2.2.2 = true → ¬ (x.1 = a ∧ x.2.1 = b ∧ x.2.2.1 = m) := by
    rintro ht ⟨q1, q2, q3⟩
    rcases hx with ⟨_, h2, h3⟩ | ⟨h1, _⟩
    · rw [q1, q2, q3] at h3
      have := congrArg ByteArray.size h3
      rw [ByteArray.size_extract] at this
      omega
    · rw [h1] at ht; cases ht
  rw [y0, z0, lnRec_eq 29 x.1 x.2.1 x.2.2.1 a b m (by omega) (by omega)]
  refine Ex.ite (fun ht => Ex.bindS (Ex.ite (fun h => absurd (by simpa using h) (x0 ht)) (fun _ => Ex.ite (fun h => by cases h) (fun _ => Ex.ret rfl)))) (fun _ => Ex.ite (fun h => by cases h) (fun _ => Ex.ret rfl))

end Go.Proofs.YtbcepmkifomifaaDoor.Pure
