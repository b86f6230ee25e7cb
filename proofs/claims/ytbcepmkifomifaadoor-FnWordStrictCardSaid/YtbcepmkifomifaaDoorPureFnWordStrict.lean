/- A word is written in one way (P26): of every code, whatever is drawn, the law is true. Proved: the law's one pure statement. No condition. -/
import Derived.Test.YtbcepmkifomifaaDoorPureReadW
import Derived.Test.YtbcepmkifomifaaDoorZab1
namespace Go.Proofs.YtbcepmkifomifaaDoor.Pure
open Go.RowKit Go.Proofs.YtbcepmkifomifaaDoor.Print Go.Proofs.YtbcepmkifomifaaDoorW.PrintWords Go.Proofs.YtbcepmkifomifaaDoorW.PrintLast

set_option maxRecDepth 100000 in
theorem words_small : (words.all fun w => decide ((wT w.1 w.2.1 w.2.2.1 w.2.2.2).size ≤ 20)) = true := by decide +kernel
theorem word_small (a b c d : Int) : (wText a b c d).size ≤ 20 := by
  unfold wText
  by_cases h : wordB a b c d = true
  · rw [if_pos h]
    have := List.all_eq_true.1 words_small _ (words_mem h)
    simpa using this
  · rw [if_neg h]; exact Nat.zero_le _
theorem of_ex (k : Nat) (hk : 1 ≤ k) (b : List Int) (hb : Code b) (p : Int) (hp : 0 ≤ p) (hp2 : p ≤ 1000000) (l : List ByteArray) (hl : 1 ≤ l.length) (hl2 : l.length ≤ 1000) (n : Nat) (hn : ∀ x ∈ l, x.size ≤ n) : Ex (spec_l6Rd_of.f k b p l) (fun r => r.1.size ≤ n) := by
  unfold spec_l6Rd_of.f
  refine Ex.bind (pick_ex k b hb _ _ (by omega) (by omega) (by omega) (by omega) hk) (fun r hr => ?_)
  refine Ex.ite (fun _ => Ex.ite (fun h => Ex.ret ?_) (fun h => by omega)) (fun h => by omega)
  show (rdOf ByteArray.empty l r.1).size ≤ n
  have hi : r.1.toNat < l.length := by omega
  have : rdOf ByteArray.empty l r.1 = l[r.1.toNat] := by simp [rdOf, List.getD_eq_getElem?_getD, List.getElem?_eq_getElem hi]
  rw [this]
  exact hn _ (List.getElem_mem hi)
theorem drawWordRead_ex (k : Nat) (l : List Int) (h : ∀ x ∈ l, (Lit.int .u8 x).wf = true) (hk : 4 ≤ k) : Ex (spec_DrawWordRead.f k l) (fun s => s.size ≤ 100) := by
  unfold spec_DrawWordRead.f
  refine Ex.bind (open_ex l h) (fun r hr => ?_)
  refine Ex.bind (l71Word_ex k r.1 hr.1 _ (by omega) (by omega) (by omega)) (fun w hw => ?_)
  rw [wordText_spec k hk]
  refine Ex.bindS ?_
  have hs := word_small w.1 w.2.1 w.2.2.1 w.2.2.2.1
  generalize wText w.1 w.2.1 w.2.2.1 w.2.2.2.1 = s at hs
  have e1 : wrap64 ((s.size : Int) + 1) = (s.size : Int) + 1 := w64 (by omega) (by omega)
  rw [e1]
  refine Ex.bind (pick_ex k r.1 hr.1 _ _ (by omega) (by omega) (by omega) (by omega) (by omega)) (fun p hp => ?_)
  refine Ex.bind (pick_ex k r.1 hr.1 _ _ (by omega) (by omega) (by omega) (by omega) (by omega)) (fun q hq => ?_)
  refine Ex.ite (fun _ => Ex.ite (fun _ => Ex.ite (fun _ => Ex.ret ?_) (fun h => by omega)) (fun h => by omega)) (fun _ => Ex.ite (fun _ => Ex.ite (fun _ => Ex.ite (fun _ => ?_) (fun h => by omega)) (fun h => by omega)) (fun _ => Ex.ret (by omega)))
  · show (s.extract 0 _).size ≤ 100
    rw [ByteArray.size_extract]; omega
  · refine Ex.bind (of_ex k (by omega) r.1 hr.1 _ (by omega) (by omega) _ (by decide) (by decide) 2 (by decide)) (fun o ho => ?_)
    refine Ex.ite (fun _ => Ex.ite (fun _ => Ex.ret ?_) (fun h => ?_)) (fun h => ?_)
    · show ((s.extract 0 _ ++ o.1) ++ s.extract _ s.size).size ≤ 100
      rw [ByteArray.size_append, ByteArray.size_append, ByteArray.size_extract, ByteArray.size_extract]; omega
    · rw [ByteArray.size_append, ByteArray.size_extract, ByteArray.size_extract] at h; omega
    · rw [ByteArray.size_extract] at h; omega
theorem FnWordStrict : laws_FnWordStrict.Pure := by
  intro l0 _ _ h0
  refine ⟨40, Ex.some_ ?_⟩
  unfold laws_FnWordStrict.f
  refine Ex.ite (fun _ => Ex.ret rfl) (fun _ => ?_)
  refine Ex.bind (drawWordRead_ex 40 l0 h0 (by omega)) (fun s hs => ?_)
  obtain ⟨r, hg, e, e'⟩ := wordRead_same 40 40 (by omega) (by omega) s (by omega)
  rw [e']
  refine Ex.bindS ?_
  rw [e]
  refine Ex.bindS ?_
  refine Ex.ite (fun h => by simp at h) (fun _ => Ex.ite (fun h => by simp at h) (fun _ => ?_))
  simp only [laws_FnWordStrict.j0]
  refine Ex.ite (fun _ => Ex.ite (fun _ => Ex.ret (by simp)) (fun h => by simp at h)) (fun hn => ?_)
  have ho : r.2.2.2.2 = true := by simpa using hn
  rcases hg with ⟨_, h2, h3⟩ | ⟨h1, _⟩
  · simp only [wordOk_impl, wordText_impl, Option.bind_some, h2]
    rw [if_pos trivial]
    refine Ex.ret ?_
    rw [beq_iff_eq]
    unfold wText
    rw [if_pos h2, ← h3]
  · rw [h1] at ho; cases ho

end Go.Proofs.YtbcepmkifomifaaDoor.Pure
