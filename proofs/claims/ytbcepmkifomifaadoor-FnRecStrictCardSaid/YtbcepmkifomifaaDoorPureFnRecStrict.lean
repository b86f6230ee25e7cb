/- A record is written in one way (P2): of every code, whatever is drawn, the law is true. Proved: the law's one pure statement. No condition. -/
import Derived.Test.YtbcepmkifomifaaDoorPureReadR
import Derived.Test.YtbcepmkifomifaaDoorPureDrawRec
import Derived.Test.YtbcepmkifomifaaDoorPureLnInts
import Derived.Test.YtbcepmkifomifaaDoorZo1
namespace Go.Proofs.YtbcepmkifomifaaDoor.Pure
open Go.RowKit Go.Proofs.YtbcepmkifomifaaDoor.Print Go.Proofs.YtbcepmkifomifaaDoorW.PrintWords Go.Proofs.YtbcepmkifomifaaDoorW.PrintLast

set_option maxRecDepth 100000 in
theorem recs_small : (recs.all fun w => decide ((rT w.1 w.2.1 w.2.2).size ≤ 20)) = true := by decide +kernel
theorem rec_small (a b : Int) (m : List Int) : (rText a b m).size ≤ 20 := by
  unfold rText
  by_cases h : recB a b m = true
  · rw [if_pos h]
    have := List.all_eq_true.1 recs_small _ (recs_mem h)
    simpa using this
  · rw [if_neg h]; exact Nat.zero_le _
theorem of_ex (k : Nat) (hk : 1 ≤ k) (b : List Int) (hb : Code b) (p : Int) (hp : 0 ≤ p) (hp2 : p ≤ 1000000) (l : List ByteArray) (hl : 1 ≤ l.length) (hl2 : l.length ≤ 1000) (n : Nat) (hn : ∀ x ∈ l, x.size ≤ n) : Ex (spec_l6Rd_of.f k b p l) (fun r => r.1.size ≤ n) := by
  unfold spec_l6Rd_of.f
  refine Ex.bind (pick_ex k b hb _ _ (by omega) (by omega) (by omega) (by omega) hk) (fun r hr => ?_)
  refine Ex.ite (fun _ => Ex.ite (fun h => Ex.ret ?_) (fun h => by omega)) (fun h => by omega)
  show (rdOf ByteArray.empty l r.1).size ≤ n
  have hi : r.1.toNat < l.length := by omega
  have : rdOf ByteArray.empty l r.1 = l[r.1.toNat] := by simp [rdOf, List.getD_eq_getElem?_getD, List.getElem?_eq_getElem hi]
  rw [this]
  exact hn _ (List.getElem_mem hi)
theorem drawRecRead_ex (k : Nat) (l : List Int) (h : ∀ x ∈ l, (Lit.int .u8 x).wf = true) (hk : 10 ≤ k) : Ex (spec_DrawRecRead.f k l) (fun s => s.size ≤ 100) := by
  unfold spec_DrawRecRead.f
  refine Ex.bind (open_ex l h) (fun r hr => ?_)
  refine Ex.bind (l71RecV_ex k r.1 hr.1 _ (by omega) (by omega) (by omega)) (fun w hw => ?_)
  rw [recText_spec k hk _ _ _ (by omega) (by omega)]
  refine Ex.bindS ?_
  have hs := rec_small w.1 w.2.1 w.2.2.1
  generalize rText w.1 w.2.1 w.2.2.1 = s at hs
  have e1 : wrap64 ((s.size : Int) + 1) = (s.size : Int) + 1 := w64 (by omega) (by omega)
  rw [e1]
  refine Ex.bind (pick_ex k r.1 hr.1 _ _ (by omega) (by omega) (by omega) (by omega) (by omega)) (fun p hp => ?_)
  refine Ex.bind (pick_ex k r.1 hr.1 _ _ (by omega) (by omega) (by omega) (by omega) (by omega)) (fun q hq => ?_)
  refine Ex.ite (fun _ => Ex.ite (fun _ => Ex.ite (fun _ => Ex.ret ?_) (fun h => by omega)) (fun h => by omega)) (fun _ => Ex.ite (fun _ => Ex.ite (fun _ => Ex.ite (fun _ => ?_) (fun h => by omega)) (fun h => by omega)) (fun _ => Ex.ret (by omega)))
  · show (s.extract 0 _).size ≤ 100
    rw [ByteArray.size_extract]; omega
  · refine Ex.bind (of_ex k (by omega) r.1 hr.1 _ (by omega) (by omega) _ (by decide) (by decide) 2 (by decide)) (fun o ho => ?_)
    refine Ex.ite (fun _ => Ex.ite (fun _ => Ex.ret ?_) (fun h => ?_)) (fun h => ?_)
    · show ((s.extract 0 _ ++ o.1) ++ s.extract _ s.size).size ≤ 100
      rw [ByteArray.size_append, ByteArray.size_append, ByteArray.size_extract, ByteArray.size_extract]; omega
    · rw [ByteArray.size_append, ByteArray.size_extract, ByteArray.size_extract] at h; omega
    · rw [ByteArray.size_extract] at h; omega
theorem FnRecStrict : laws_FnRecStrict.Pure := by
  intro l0 _ _ h0
  refine ⟨100, Ex.some_ ?_⟩
  unfold laws_FnRecStrict.f
  refine Ex.ite (fun _ => Ex.ret rfl) (fun _ => ?_)
  refine Ex.bind (drawRecRead_ex 100 l0 h0 (by omega)) (fun s hs => ?_)
  obtain ⟨r, hg, e, e'⟩ := recRead_same 100 100 (by omega) (by omega) s (by omega)
  have hl := hg.len
  rw [e']
  refine Ex.bindS ?_
  rw [e]
  refine Ex.bindS ?_
  refine Ex.ite (fun h => by simp at h) (fun _ => ?_)
  rw [lnRec_eq 100 _ _ _ _ _ _ (by omega) (by omega)]
  refine Ex.bindS (Ex.ite (fun _ => ?_) (fun h => by simp at h))
  simp only [laws_FnRecStrict.j0]
  refine Ex.ite (fun _ => Ex.ite (fun _ => ?_) (fun h => by simp at h)) (fun hn => ?_)
  · rw [lnRec_eq 99 _ _ _ _ _ _ (by omega) (by omega)]
    exact Ex.bindS (Ex.ret (by simp))
  · have ho : r.2.2.2 = true := by simpa using hn
    rcases hg with ⟨_, h2, h3⟩ | ⟨h1, _⟩
    · simp only [recOk_impl, recText_impl, Option.bind_some, h2]
      rw [if_pos trivial]
      refine Ex.ret ?_
      rw [beq_iff_eq]
      unfold rText
      rw [if_pos h2, ← h3]
    · rw [h1] at ho; cases ho

end Go.Proofs.YtbcepmkifomifaaDoor.Pure
