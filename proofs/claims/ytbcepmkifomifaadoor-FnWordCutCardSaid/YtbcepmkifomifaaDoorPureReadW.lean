/- The pure side of reading words: a text is read just if it is the text of a word that is ok, and then that word is told; so it is of the program, and of the reference. -/
import Derived.Test.YtbcepmkifomifaaDoorPureTextW
import Derived.Test.YtbcepmkifomifaaDoorPureDec
import Derived.Test.YtbcepmkifomifaaDoorZv0
import Derived.Test.YtbcepmkifomifaaDoorZy0
namespace Go.Proofs.YtbcepmkifomifaaDoor.Pure
open Go.RowKit Go.Proofs.YtbcepmkifomifaaDoor.Print Go.Proofs.YtbcepmkifomifaaDoorW.PrintWords Go.Proofs.YtbcepmkifomifaaDoorW.PrintLast

/-- What is told of a text, if nothing is left out. -/
def ToldW (s : ByteArray) (r : Int × Int × Int × Int × Bool) : Prop := (r.2.2.2.2 = true ∧ wordB r.1 r.2.1 r.2.2.1 r.2.2.2.1 = true ∧ s = wT r.1 r.2.1 r.2.2.1 r.2.2.2.1) ∨ r = (0, 0, 0, 0, false)
def GoodW (s : ByteArray) (r : Int × Int × Int × Int × Bool) : Prop := (r.2.2.2.2 = true ∧ wordB r.1 r.2.1 r.2.2.1 r.2.2.2.1 = true ∧ s = wT r.1 r.2.1 r.2.2.1 r.2.2.2.1) ∨ (r = (0, 0, 0, 0, false) ∧ ∀ a b c d, wordB a b c d = true → s ≠ wT a b c d)
theorem GoodW.one {s : ByteArray} {r q : Int × Int × Int × Int × Bool} (h : GoodW s r) (k : GoodW s q) : r = q := by
  obtain ⟨a, b, c, d, o⟩ := r
  obtain ⟨a', b', c', d', o'⟩ := q
  rcases h with ⟨h1, h2, h3⟩ | ⟨h1, h2⟩
  · rcases k with ⟨k1, k2, k3⟩ | ⟨k1, k2⟩
    · dsimp only at h1 h2 h3 k1 k2 k3
      have := wT_inj h2 k2 (h3.symm.trans k3)
      simp only [Prod.mk.injEq] at this ⊢
      exact ⟨this.1, this.2.1, this.2.2.1, this.2.2.2, h1.trans k1.symm⟩
    · exact absurd h3 (k2 _ _ _ _ h2)
  · rcases k with ⟨k1, k2, k3⟩ | ⟨k1, k2⟩
    · exact absurd k3 (h2 _ _ _ _ k2)
    · rw [h1, k1]
set_option maxRecDepth 100000 in
theorem words_read : (words.all fun w => decide (impl_WordRead.f 3 (wT w.1 w.2.1 w.2.2.1 w.2.2.2) = some (w.1, w.2.1, w.2.2.1, w.2.2.2, true)) && decide (spec_WordRead.f 30 (wT w.1 w.2.1 w.2.2.1 w.2.2.2) = some (w.1, w.2.1, w.2.2.1, w.2.2.2, true))) = true := by decide +kernel
theorem word_read {a b c d : Int} (h : wordB a b c d = true) : impl_WordRead.f 3 (wT a b c d) = some (a, b, c, d, true) ∧ spec_WordRead.f 30 (wT a b c d) = some (a, b, c, d, true) := by
  have := List.all_eq_true.1 words_read _ (words_mem h)
  simpa only [Bool.and_eq_true, decide_eq_true_eq] using this
theorem ToldW.good {f : Nat → Option (Int × Int × Int × Int × Bool)} {s : ByteArray} {k k0 : Nat} (h : Ex (f k) (ToldW s)) (hk : k0 ≤ k) (hm : ∀ k, LeO (f k) (f (k + 1))) (hr : ∀ a b c d, wordB a b c d = true → s = wT a b c d → f k0 = some (a, b, c, d, true)) : Ex (f k) (GoodW s) := by
  obtain ⟨r, e, hr1⟩ := h
  refine ⟨r, e, ?_⟩
  rcases hr1 with h1 | h1
  · exact .inl h1
  · refine .inr ⟨h1, fun a b c d hB hs => ?_⟩
    have := at_rounds hm hk (hr a b c d hB hs)
    rw [e, h1] at this
    injection this with this
    simp at this
theorem impl_j1 (k : Nat) (s : ByteArray) (a b c d : Int) : Ex (impl_WordRead.j1 (k + 1) s a b c d) (ToldW s) := by
  simp only [impl_WordRead.j1, wordOk_impl, wordText_impl, Option.bind_some]
  refine Ex.ite (fun h => Ex.ite (fun e => Ex.ret (.inl ⟨rfl, h, ?_⟩)) (fun _ => Ex.ret (.inr rfl))) (fun _ => Ex.ret (.inr rfl))
  have := bytes_eq e
  unfold wText at this
  rw [if_pos h] at this
  exact this.symm
theorem wordRead_impl (k : Nat) (hk : 3 ≤ k) (s : ByteArray) (hs : s.size ≤ 2097152) : Ex (impl_WordRead.f k s) (GoodW s) := by
  refine ToldW.good (f := fun k => impl_WordRead.f k s) (k0 := 3) ?_ hk (fun k => impl_WordRead.mono s k) (fun a b c d h e => by rw [e]; exact (word_read h).1)
  obtain ⟨k, rfl⟩ : ∃ m, k = m + 2 := ⟨k - 2, by omega⟩
  show Ex (impl_WordRead.f (k + 2) s) (ToldW s)
  unfold impl_WordRead.f impl_parsed.f
  refine Ex.bindS ?_
  rw [if_pos ⟨hs, by decide⟩]
  refine Ex.bindS ?_
  generalize Lib.idxOfS _ _ = kind
  generalize List.map impl_parsed.num (impl_parsed.parts s).tail = ns
  dsimp only
  have j0t : Ex (impl_WordRead.j0 (k + 2) s kind ns true) (ToldW s) := by
    simp only [impl_WordRead.j0]
    rw [if_pos trivial]
    exact Ex.ret (.inr rfl)
  refine Ex.ite (fun _ => j0t) (fun _ => ?_)
  rw [in_impl]
  refine Ex.bindS ?_
  by_cases h : 2 ≤ (ns.length : Int) ∧ (ns.length : Int) ≤ 3
  · rw [decide_eq_true h]
    simp only [impl_WordRead.j0, Bool.not_true]
    refine Ex.ite (fun h => by cases h) (fun _ => Ex.ite (fun _ => Ex.ite (fun _ => Ex.ite (fun _ => Ex.ite (fun _ => ?_) (fun h => by omega)) (fun _ => ?_)) (fun h => by omega)) (fun h => by omega))
    · exact impl_j1 k s _ _ _ _
    · exact impl_j1 k s _ _ _ _
  · rw [decide_eq_false h]
    exact j0t
theorem spec_j1 (k : Nat) (hk : 4 ≤ k) (s : ByteArray) (a b c d : Int) : Ex (spec_WordRead.j1 (k + 1) s a b c d) (ToldW s) := by
  simp only [spec_WordRead.j1, wordOk_spec k (by omega), wordText_spec k hk, Option.bind_some]
  refine Ex.ite (fun h => Ex.ite (fun e => Ex.ret (.inl ⟨rfl, h, ?_⟩)) (fun _ => Ex.ret (.inr rfl))) (fun _ => Ex.ret (.inr rfl))
  have := bytes_eq e
  unfold wText at this
  rw [if_pos h] at this
  exact this.symm
theorem spec_l0 (s : ByteArray) (p names : List ByteArray) (hp : 3 ≤ p.length) (hp4 : p.length ≤ 4) (hn : names.length ≤ 100) : ∀ (d k i : Nat) (a b c e : Int), i + d = names.length → d + 10 ≤ k → Ex (spec_WordRead.l0 k s p names i a b c e) (ToldW s) := by
  intro d
  induction d with
  | zero =>
    intro k i a b c e hi hk
    obtain ⟨k, rfl⟩ : ∃ m, k = m + 2 := ⟨k - 2, by omega⟩
    simp only [spec_WordRead.l0]
    refine Ex.ite (fun h => by omega) (fun _ => Ex.ite (fun _ => Ex.ite (fun _ => Ex.bind (l1Dec_ex _ (by omega) _) (fun t _ => ?_)) (fun h => by omega)) (fun _ => ?_))
    · exact spec_j1 k (by omega) s _ _ _ _
    · exact spec_j1 k (by omega) s _ _ _ _
  | succ d ih =>
    intro k i a b c e hi hk
    obtain ⟨k, rfl⟩ : ∃ m, k = m + 1 := ⟨k - 1, by omega⟩
    simp only [spec_WordRead.l0]
    have e1 : wrap64 ((i : Int) + 1) = ((i + 1 : Nat) : Int) := by rw [w64 (by omega) (by omega)]; omega
    rw [e1]
    exact Ex.ite (fun _ => Ex.ite (fun _ => Ex.ite (fun _ => Ex.ite (fun _ => ih k (i + 1) _ _ _ _ (by omega) (by omega)) (fun _ => ih k (i + 1) _ _ _ _ (by omega) (by omega))) (fun h => by omega)) (fun h => by omega)) (fun h => by omega)
theorem wordRead_spec (k : Nat) (hk : 30 ≤ k) (s : ByteArray) : Ex (spec_WordRead.f k s) (GoodW s) := by
  refine ToldW.good (f := fun k => spec_WordRead.f k s) (k0 := 30) ?_ hk (fun k => spec_WordRead.mono s k) (fun a b c d h e => by rw [e]; exact (word_read h).2)
  show Ex (spec_WordRead.f k s) (ToldW s)
  unfold spec_WordRead.f
  refine Ex.ite (fun _ => Ex.ret (.inr rfl)) (fun hs => ?_)
  refine Ex.bind (l1Cut_ex s (by omega) 32) (fun p hp => ?_)
  rw [in_spec]
  refine Ex.bindS (Ex.ite (fun h => ?_) (fun _ => Ex.ret (.inr rfl)))
  have h : 3 ≤ (p.length : Int) ∧ (p.length : Int) ≤ 4 := by simpa using h
  refine Ex.ite (fun _ => Ex.bind (l1Dec_ex k (by omega) _) (fun x _ => Ex.ite (fun _ => Ex.bind (l1Dec_ex k (by omega) _) (fun y _ => ?_)) (fun h => by omega))) (fun h => by omega)
  refine Ex.bindS ?_
  exact spec_l0 s p _ (by omega) (by omega) (by decide) 7 k 1 _ _ _ _ (by decide) (by omega)
/-- Both tell the same. -/
theorem wordRead_same (k k' : Nat) (hk : 3 ≤ k) (hk' : 30 ≤ k') (s : ByteArray) (hs : s.size ≤ 2097152) : ∃ r, GoodW s r ∧ impl_WordRead.f k s = some r ∧ spec_WordRead.f k' s = some r := by
  obtain ⟨r, e, h⟩ := wordRead_impl k hk s hs
  obtain ⟨r', e', h'⟩ := wordRead_spec k' hk' s
  have := h.one h'
  subst this
  exact ⟨r, h, e, e'⟩

end Go.Proofs.YtbcepmkifomifaaDoor.Pure
