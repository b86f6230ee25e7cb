/- Words for the pure statements: what an option yields. -/
import Derived.Test.YtbcepmkifomifaaDoorZe0
namespace Go.Proofs.YtbcepmkifomifaaDoor.Pure
open Go.RowKit Go.Proofs.YtbcepmkifomifaaDoor.Print Go.Proofs.YtbcepmkifomifaaDoorW.PrintWords Go.Proofs.YtbcepmkifomifaaDoorW.PrintLast

/-- An option that tells something, of which Q holds. -/
def Ex {α : Type} (o : Option α) (Q : α → Prop) : Prop := ∃ r, o = some r ∧ Q r
theorem Ex.ret {α : Type} {r : α} {Q : α → Prop} (h : Q r) : Ex (some r) Q := ⟨r, rfl, h⟩
theorem Ex.bind {α β : Type} {g : Option α} {f : α → Option β} {P : α → Prop} {Q : β → Prop} (h : Ex g P) (k : ∀ a, P a → Ex (f a) Q) : Ex (g.bind f) Q := by
  obtain ⟨a, rfl, ha⟩ := h
  exact k a ha
theorem Ex.bindS {α β : Type} {a : α} {f : α → Option β} {Q : β → Prop} (k : Ex (f a) Q) : Ex ((some a).bind f) Q := k
theorem Ex.ite {α : Type} {c : Prop} [Decidable c] {a b : Option α} {Q : α → Prop} (h : c → Ex a Q) (k : ¬ c → Ex b Q) : Ex (if c then a else b) Q := by
  by_cases hc : c
  · rw [if_pos hc]; exact h hc
  · rw [if_neg hc]; exact k hc
theorem Ex.mono {α : Type} {o : Option α} {P Q : α → Prop} (h : Ex o P) (k : ∀ a, P a → Q a) : Ex o Q := by
  obtain ⟨r, hr, hp⟩ := h
  exact ⟨r, hr, k r hp⟩
theorem Ex.of {α : Type} {o : Option α} {r : α} (h : o = some r) : Ex o (fun x => x = r) := ⟨r, h, rfl⟩
theorem Ex.some_ {α : Type} {o : Option α} {r : α} (h : Ex o (fun x => x = r)) : o = some r := by
  obtain ⟨x, hx, rfl⟩ := h
  exact hx
theorem w64 {n : Int} (h : -9223372036854775808 ≤ n) (h' : n ≤ 9223372036854775807) : wrap64 n = n := by unfold wrap64; omega
theorem in_impl (a b c : Int) : impl_in.f a b c = some (decide (b ≤ a ∧ a ≤ c)) := by
  unfold impl_in.f
  by_cases h : a ≥ b
  · rw [if_pos h]; congr 1; simp; omega
  · rw [if_neg h]; congr 1; simp; omega
theorem in_spec (a b c : Int) : spec_l6In.f a b c = some (decide (b ≤ a ∧ a ≤ c)) := by
  unfold spec_l6In.f
  by_cases h : a ≥ b
  · rw [if_pos h]; congr 1; simp; omega
  · rw [if_neg h]; congr 1; simp; omega

end Go.Proofs.YtbcepmkifomifaaDoor.Pure
