/- The pure side of reading records: a text is read just if it is the text of a record that is ok, and then that record is told; so it is of the program, and of the reference. -/
import Derived.Test.YtbcepmkifomifaaDoorPureTextR
import Derived.Test.YtbcepmkifomifaaDoorPureDec
import Derived.Test.YtbcepmkifomifaaDoorZh1
import Derived.Test.YtbcepmkifomifaaDoorZk0
namespace Go.Proofs.YtbcepmkifomifaaDoor.Pure
open Go.RowKit Go.Proofs.YtbcepmkifomifaaDoor.Print Go.Proofs.YtbcepmkifomifaaDoorW.PrintWords Go.Proofs.YtbcepmkifomifaaDoorW.PrintLast

/-- What is told of a text, if nothing is left out. -/
def ToldR (s : ByteArray) (r : Int × Int × List Int × Bool) : Prop := (r.2.2.2 = true ∧ recB r.1 r.2.1 r.2.2.1 = true ∧ s = rT r.1 r.2.1 r.2.2.1) ∨ r = (0, 0, [], false)
def GoodR (s : ByteArray) (r : Int × Int × List Int × Bool) : Prop := (r.2.2.2 = true ∧ recB r.1 r.2.1 r.2.2.1 = true ∧ s = rT r.1 r.2.1 r.2.2.1) ∨ (r = (0, 0, [], false) ∧ ∀ a b m, recB a b m = true → s ≠ rT a b m)
theorem GoodR.one {s : ByteArray} {r q : Int × Int × List Int × Bool} (h : GoodR s r) (k : GoodR s q) : r = q := by
  obtain ⟨a, b, m, o⟩ := r
  obtain ⟨a', b', m', o'⟩ := q
  rcases h with ⟨h1, h2, h3⟩ | ⟨h1, h2⟩
  · rcases k with ⟨k1, k2, k3⟩ | ⟨k1, k2⟩
    · dsimp only at h1 h2 h3 k1 k2 k3
      have := rT_inj h2 k2 (h3.symm.trans k3)
      simp only [Prod.mk.injEq] at this ⊢
      exact ⟨this.1, this.2.1, this.2.2, h1.trans k1.symm⟩
    · exact absurd h3 (k2 _ _ _ h2)
  · rcases k with ⟨k1, k2, k3⟩ | ⟨k1, k2⟩
    · exact absurd k3 (h2 _ _ _ k2)
    · rw [h1, k1]
theorem recB_len {a b : Int} {m : List Int} (h : recB a b m = true) : m.length ≤ 3 := by
  simp only [recB, Bool.and_eq_true] at h
  obtain ⟨_, h⟩ := h
  by_cases h1 : a = 1
  · rw [if_pos h1] at h; simp at h; omega
  · rw [if_neg h1] at h
    by_cases h4 : a = 4
    · rw [if_pos h4] at h; simp only [manyB, decide_eq_true_eq] at h; omega
    · rw [if_neg h4] at h; simp at h; subst h; simp
theorem GoodR.len {s : ByteArray} {r : Int × Int × List Int × Bool} (h : GoodR s r) : r.2.2.1.length ≤ 3 := by
  rcases h with ⟨_, h2, _⟩ | ⟨h1, _⟩
  · exact recB_len h2
  · rw [h1]; simp
set_option maxRecDepth 100000 in
theorem recs_read_impl : (recs.all fun w => decide (impl_RecRead.f 3 (rT w.1 w.2.1 w.2.2) = some (w.1, w.2.1, w.2.2, true))) = true := by decide +kernel
set_option maxRecDepth 100000 in
theorem recs_read_spec : (recs.all fun w => decide (spec_RecRead.f 80 (rT w.1 w.2.1 w.2.2) = some (w.1, w.2.1, w.2.2, true))) = true := by decide +kernel
theorem rec_read {a b : Int} {m : List Int} (h : recB a b m = true) : impl_RecRead.f 3 (rT a b m) = some (a, b, m, true) ∧ spec_RecRead.f 80 (rT a b m) = some (a, b, m, true) := by
  have h1 := List.all_eq_true.1 recs_read_impl _ (recs_mem h)
  have h2 := List.all_eq_true.1 recs_read_spec _ (recs_mem h)
  simp only [decide_eq_true_eq] at h1 h2
  exact ⟨h1, h2⟩
theorem ToldR.good {f : Nat → Option (Int × Int × List Int × Bool)} {s : ByteArray} {k k0 : Nat} (h : Ex (f k) (ToldR s)) (hk : k0 ≤ k) (hm : ∀ k, LeO (f k) (f (k + 1))) (hr : ∀ a b m, recB a b m = true → s = rT a b m → f k0 = some (a, b, m, true)) : Ex (f k) (GoodR s) := by
  obtain ⟨r, e, hr1⟩ := h
  refine ⟨r, e, ?_⟩
  rcases hr1 with h1 | h1
  · exact .inl h1
  · refine .inr ⟨h1, fun a b m hB hs => ?_⟩
    have := at_rounds hm hk (hr a b m hB hs)
    rw [e, h1] at this
    injection this with this
    simp at this
theorem parts_small (s : ByteArray) : (impl_parsed.parts s).length ≤ s.size + 1 := by
  have h1 := Lib.splitB_length_le ⟨#[32]⟩ 0 (Lib.countB s ⟨#[32]⟩) s
  have h2 := Lib.countB_mul_le ⟨#[32]⟩ (by decide) s.size s (Nat.le_refl _)
  have h3 : (⟨#[32]⟩ : ByteArray).size = 1 := rfl
  rw [h3] at h2
  show (Lib.splitB _ _ _ _).length ≤ _
  omega
theorem recRead_impl (k : Nat) (hk : 3 ≤ k) (s : ByteArray) (hs : s.size ≤ 2097152) : Ex (impl_RecRead.f k s) (GoodR s) := by
  refine ToldR.good (f := fun k => impl_RecRead.f k s) (k0 := 3) ?_ hk (fun k => impl_RecRead.mono s k) (fun a b m h e => by rw [e]; exact (rec_read h).1)
  obtain ⟨k, rfl⟩ : ∃ m, k = m + 1 := ⟨k - 1, by omega⟩
  show Ex (impl_RecRead.f (k + 1) s) (ToldR s)
  have hp := parts_small s
  unfold impl_RecRead.f impl_parsed.f
  refine Ex.bindS ?_
  rw [if_pos ⟨hs, by decide⟩]
  refine Ex.bindS ?_
  generalize Lib.idxOfS _ _ = kind
  have hns : (List.map impl_parsed.num (impl_parsed.parts s).tail).length ≤ s.size + 1 := by rw [List.length_map, List.length_tail]; omega
  generalize List.map impl_parsed.num (impl_parsed.parts s).tail = ns at hns
  dsimp only
  have j0t : Ex (impl_RecRead.j0 (k + 1) s kind ns true) (ToldR s) := by
    simp only [impl_RecRead.j0]
    rw [if_pos trivial]
    exact Ex.ret (.inr rfl)
  refine Ex.ite (fun _ => j0t) (fun h20 => ?_)
  by_cases h : ns.length = 0
  · have e : ((ns.length : Int) == 0) = true := by simp [h]
    rw [e]; exact j0t
  · have e : ((ns.length : Int) == 0) = false := by simp; intro h2; exact h (by rw [h2]; rfl)
    rw [e]
    simp only [impl_RecRead.j0]
    refine Ex.ite (fun h => by cases h) (fun _ => Ex.ite (fun _ => Ex.ite (fun _ => ?_) (fun h => by omega)) (fun h => by omega))
    unfold slices_Clone_int_int.f
    rw [if_pos (by rw [List.length_drop]; omega)]
    refine Ex.bindS ?_
    simp only [recOk_impl, recText_impl, Option.bind_some]
    refine Ex.ite (fun h => Ex.ite (fun e => Ex.ret (.inl ⟨rfl, h, ?_⟩)) (fun _ => Ex.ret (.inr rfl))) (fun _ => Ex.ret (.inr rfl))
    have := bytesR_eq e
    unfold rText at this
    rw [if_pos h] at this
    exact this.symm
theorem specR_l1 (s : ByteArray) (p : List ByteArray) (hp : p.length ≤ 21) : ∀ (d k i : Nat) (a b : Int) (m : List Int), i + d = p.length → d + 30 ≤ k → m.length ≤ i → Ex (spec_RecRead.l1 k s p i a b m) (ToldR s) := by
  intro d
  induction d with
  | zero =>
    intro k i a b m hi hk hm
    obtain ⟨k, rfl⟩ : ∃ m, k = m + 1 := ⟨k - 1, by omega⟩
    simp only [spec_RecRead.l1]
    refine Ex.ite (fun h => by omega) (fun _ => ?_)
    rw [recOk_spec a b m (by omega) k (by omega)]
    refine Ex.bindS (Ex.ite (fun h => ?_) (fun _ => Ex.ret (.inr rfl)))
    rw [recText_spec k (by omega) a b m (by omega) (by omega)]
    refine Ex.bindS (Ex.ite (fun e => Ex.ret (.inl ⟨rfl, h, ?_⟩)) (fun _ => Ex.ret (.inr rfl)))
    have := bytesR_eq e
    unfold rText at this
    rw [if_pos h] at this
    exact this.symm
  | succ d ih =>
    intro k i a b m hi hk hm
    obtain ⟨k, rfl⟩ : ∃ m, k = m + 1 := ⟨k - 1, by omega⟩
    simp only [spec_RecRead.l1]
    have e1 : wrap64 ((i : Int) + 1) = ((i + 1 : Nat) : Int) := by rw [w64 (by omega) (by omega)]; omega
    rw [e1]
    refine Ex.ite (fun _ => Ex.ite (fun _ => Ex.bind (l1Dec_ex k (by omega) _) (fun t _ => Ex.ite (fun _ => ?_) (fun h => by omega))) (fun h => by omega)) (fun h => by omega)
    exact ih k (i + 1) a b _ (by omega) (by omega) (by rw [List.length_append, List.length_singleton]; omega)
theorem specR_l0 (s : ByteArray) (p names : List ByteArray) (hp : 2 ≤ p.length) (hp2 : p.length ≤ 21) (hn : names.length ≤ 100) : ∀ (d k i : Nat) (a b : Int), i + d = names.length → d + 60 ≤ k → Ex (spec_RecRead.l0 k s p names i a b []) (ToldR s) := by
  intro d
  induction d with
  | zero =>
    intro k i a b hi hk
    obtain ⟨k, rfl⟩ : ∃ m, k = m + 1 := ⟨k - 1, by omega⟩
    simp only [spec_RecRead.l0]
    refine Ex.ite (fun h => by omega) (fun _ => ?_)
    exact specR_l1 s p hp2 (p.length - 2) k 2 a b [] (by omega) (by omega) (by simp)
  | succ d ih =>
    intro k i a b hi hk
    obtain ⟨k, rfl⟩ : ∃ m, k = m + 1 := ⟨k - 1, by omega⟩
    simp only [spec_RecRead.l0]
    have e1 : wrap64 ((i : Int) + 1) = ((i + 1 : Nat) : Int) := by rw [w64 (by omega) (by omega)]; omega
    rw [e1]
    exact Ex.ite (fun _ => Ex.ite (fun _ => Ex.ite (fun _ => Ex.ite (fun _ => ih k (i + 1) _ _ (by omega) (by omega)) (fun _ => ih k (i + 1) _ _ (by omega) (by omega))) (fun h => by omega)) (fun h => by omega)) (fun h => by omega)
theorem recRead_spec (k : Nat) (hk : 80 ≤ k) (s : ByteArray) : Ex (spec_RecRead.f k s) (GoodR s) := by
  refine ToldR.good (f := fun k => spec_RecRead.f k s) (k0 := 80) ?_ hk (fun k => spec_RecRead.mono s k) (fun a b m h e => by rw [e]; exact (rec_read h).2)
  show Ex (spec_RecRead.f k s) (ToldR s)
  unfold spec_RecRead.f
  refine Ex.ite (fun _ => Ex.ret (.inr rfl)) (fun hs => ?_)
  refine Ex.bind (l1Cut_ex s (by omega) 32) (fun p hp => ?_)
  refine Ex.ite (fun _ => Ex.ret (.inr rfl)) (fun h => Ex.ite (fun _ => Ex.bind (l1Dec_ex k (by omega) _) (fun x _ => ?_)) (fun h => by omega))
  refine Ex.bindS ?_
  exact specR_l0 s p _ (by omega) (by omega) (by decide) 7 k 1 _ _ (by decide) (by omega)
/-- Both tell the same. -/
theorem recRead_same (k k' : Nat) (hk : 3 ≤ k) (hk' : 80 ≤ k') (s : ByteArray) (hs : s.size ≤ 2097152) : ∃ r, GoodR s r ∧ impl_RecRead.f k s = some r ∧ spec_RecRead.f k' s = some r := by
  obtain ⟨r, e, h⟩ := recRead_impl k hk s hs
  obtain ⟨r', e', h'⟩ := recRead_spec k' hk' s
  have := h.one h'
  subst this
  exact ⟨r, h, e, e'⟩

end Go.Proofs.YtbcepmkifomifaaDoor.Pure
