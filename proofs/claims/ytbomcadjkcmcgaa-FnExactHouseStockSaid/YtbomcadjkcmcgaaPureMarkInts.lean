/- The pure side of marks on numbers: how far the marks go. -/
import Derived.Test.YtbomcadjkcmcgaaPureInts
import Derived.Test.YtbomcadjkcmcgaaZc2
namespace Go.Proofs.Ytbomcadjkcmcgaa.Pure
open Go.RowKit Go.Proofs.Ytbomcadjkcmcgaa.Print Go.Proofs.YtbomcadjkcmcgaaW.PrintWords Go.Proofs.YtbomcadjkcmcgaaW.PrintLast

theorem markIntS_loop : ∀ (d k i n : Nat) (x : List Int) (a : Int), x.length = n → i + d = n → d < k → n ≤ 1048576 → 0 ≤ a → a + d ≤ 1000000000000000 → Ex (laws_markIntS.l0 k x a i) (fun r => r.1 = a + d) := by
  intro d
  induction d with
  | zero =>
    intro k i n x a hx hi hk hn ha hb
    obtain ⟨k, rfl⟩ : ∃ m, k = m + 1 := ⟨k - 1, by omega⟩
    simp only [laws_markIntS.l0]
    rw [if_neg (by omega)]
    exact Ex.ret (by dsimp only; omega)
  | succ d ih =>
    intro k i n x a hx hi hk hn ha hb
    obtain ⟨k, rfl⟩ : ∃ m, k = m + 1 := ⟨k - 1, by omega⟩
    simp only [laws_markIntS.l0]
    have e3 : wrap64 ((i : Int) + 1) = ((i + 1 : Nat) : Int) := by rw [w64 (by omega) (by omega)]; omega
    rw [if_pos (by omega), if_pos (by omega), e3, w64 (n := a + 1) (by omega) (by omega)]
    exact (ih k (i + 1) n _ (a + 1) (by rw [List.length_set]; exact hx) (by omega) (by omega) hn (by omega) (by omega)).mono (fun r hr => by omega)
theorem markIntS_ex (l : List Int) (a : Int) (hl : l.length ≤ 1048576) (ha : 0 ≤ a) (hb : a + l.length ≤ 1000000000000000) (k : Nat) (hk : l.length < k) : Ex (laws_markIntS.f k l a) (fun r => r.1 = a + l.length) := by
  unfold laws_markIntS.f
  exact markIntS_loop l.length k 0 l.length l a rfl (by omega) hk hl ha hb

end Go.Proofs.Ytbomcadjkcmcgaa.Pure
