/- Logs that are drawn: the draw ends, and the log is short. -/
import Derived.Test.YtkbjgmfghhgodaaPureLog
import Derived.Test.YtkbjgmfghhgodaaPureDrawRec
import Derived.Test.YtkbjgmfghhgodaaZv0
namespace Go.Proofs.Ytkbjgmfghhgodaa.Pure
open Go.RowKit Go.Proofs.Ytkbjgmfghhgodaa.Print Go.Proofs.YtkbjgmfghhgodaaW.PrintWords Go.Proofs.YtkbjgmfghhgodaaW.PrintLast

def Short (l : List S45) : Prop := ∀ y ∈ l, y.f2.length ≤ 4
theorem Short.add {l : List S45} (h : Short l) {x : S45} (hx : x.f2.length ≤ 4) : Short (l ++ [x]) := by
  intro y hy
  rcases List.mem_append.mp hy with h1 | h1
  · exact h y h1
  · simp at h1; subst h1; exact hx
theorem l71Log_l1 (b : List Int) (hb : Code b) : ∀ (d k : Nat) (p : Int) (x : List S45) (c : Int), x.length + d = 42 → d < k → 0 < d → 0 ≤ p → p + d ≤ 1000000 → Short x →
    Ex (spec_l71Log.l1 k b p x c) (fun r => r.1.length ≤ 42 ∧ Short r.1 ∧ 0 ≤ r.2.2 ∧ r.2.2 ≤ p + d) := by
  intro d
  induction d with
  | zero => intro k p x c _ _ h; omega
  | succ d ih =>
    intro k p x c hx hk _ hp hp2 hs
    obtain ⟨k, rfl⟩ := lfuel (show 0 < k by omega)
    simp only [spec_l71Log.l1]
    refine Ex.bind (pick_ex _ b hb _ _ (by omega) (by omega) (by omega) (by omega) (by omega)) (fun r h => ?_)
    rw [w64 (by omega) (by omega)]
    refine Ex.ite (fun h1 => Ex.ite (fun _ => ?_) (fun h => by omega)) (fun h1 => Ex.ret ⟨by dsimp only; omega, hs, by dsimp only; omega, by dsimp only; omega⟩)
    refine (ih k r.2 _ c (by simp only [List.length_append, List.length_singleton]; omega) (by omega) (by omega) (by omega) (by omega) (hs.add (by simp))).mono (fun q hq => ⟨hq.1, hq.2.1, hq.2.2.1, by omega⟩)
theorem l71Log_l0 (b : List Int) (hb : Code b) : ∀ (n k : Nat) (p : Int) (x : List S45) (c : Int), n + 60 ≤ k → 0 ≤ p → p + 13 * n ≤ 90000 → x.length + n ≤ 40 → Short x →
    Ex (spec_l71Log.l0 k n b p x c) (fun r => r.1.length ≤ 42 ∧ Short r.1 ∧ 0 ≤ r.2.2 ∧ r.2.2 ≤ p + 13 * n + 60) := by
  intro n
  induction n with
  | zero =>
    intro k p x c hk hp hp2 hx hs
    obtain ⟨k, rfl⟩ := lfuel (show 0 < k by omega)
    simp only [spec_l71Log.l0]
    rw [if_neg (by omega), w64 (by omega) (by omega)]
    refine Ex.bind (pick_ex _ b hb _ _ (by omega) (by omega) (by omega) (by omega) (by omega)) (fun r1 h1 => ?_)
    refine Ex.bind (pick_ex _ b hb _ _ (by omega) (by omega) (by omega) (by omega) (by omega)) (fun r2 h2 => ?_)
    refine Ex.ite (fun _ => ?_) (fun _ => Ex.ite (fun _ => Ex.ite (fun _ => Ex.ret ⟨by simp only [List.length_append, List.length_singleton]; omega, hs.add (by simp), by dsimp only; omega, by dsimp only; omega⟩) (fun h => by omega)) (fun _ => Ex.ite (fun _ => ?_) (fun _ => Ex.ret ⟨by dsimp only; omega, hs, by dsimp only; omega, by dsimp only; omega⟩)))
    · refine Ex.bindS ?_
      refine Ex.bind (pick_ex _ b hb _ _ (by omega) (by omega) (by omega) (by omega) (by omega)) (fun r3 h3 => ?_)
      refine Ex.ite (fun _ => Ex.ite (fun _ => Ex.ret ⟨by dsimp only; omega, hs, by dsimp only; omega, by dsimp only; omega⟩) (fun h => by simp at h; omega)) (fun h => by omega)
    · refine (l71Log_l1 b hb (42 - x.length) k r2.2 x r1.1 (by omega) (by omega) (by omega) (by omega) (by omega) hs).mono (fun q hq => ⟨hq.1, hq.2.1, hq.2.2.1, by omega⟩)
  | succ n ih =>
    intro k p x c hk hp hp2 hx hs
    obtain ⟨k, rfl⟩ := lfuel (show 0 < k by omega)
    simp only [spec_l71Log.l0]
    have e : wrap64 (((n + 1 : Nat) : Int) - 1) = (n : Int) := by rw [w64 (by omega) (by omega)]; omega
    rw [if_pos (by omega), e]
    refine Ex.bind (l71RecV_ex k b hb p hp (by omega) (by omega)) (fun r h => ?_)
    rw [recOk_spec _ _ _ (by omega) k (by omega)]
    refine Ex.bindS (Ex.ite (fun _ => Ex.ite (fun _ => ?_) (fun h => by omega)) (fun _ => ?_))
    · exact (ih k _ _ c (by omega) h.2.1 (by omega) (by simp only [List.length_append, List.length_singleton]; omega) (hs.add (by simpa using h.1))).mono (fun q hq => ⟨hq.1, hq.2.1, hq.2.2.1, by omega⟩)
    · exact (ih k _ _ c (by omega) h.2.1 (by omega) (by omega) hs).mono (fun q hq => ⟨hq.1, hq.2.1, hq.2.2.1, by omega⟩)
theorem l71Log_ex (k : Nat) (b : List Int) (hb : Code b) (p : Int) (hp : 0 ≤ p) (hp2 : p ≤ 80000) (hk : 70 ≤ k) : Ex (spec_l71Log.f k b p) (fun r => r.1.length ≤ 42 ∧ Short r.1 ∧ 0 ≤ r.2.2 ∧ r.2.2 ≤ p + 200) := by
  unfold spec_l71Log.f
  refine Ex.bind (pick_ex _ b hb _ _ (by omega) (by omega) (by omega) (by omega) (by omega)) (fun r h => ?_)
  obtain ⟨n, hn⟩ := Int.eq_ofNat_of_zero_le h.1
  rw [hn]
  refine (l71Log_l0 b hb n k r.2 [] 0 (by omega) (by omega) (by omega) (by simp only [List.length_nil]; omega) (fun y hy => by simp at hy)).mono (fun q hq => ⟨hq.1, hq.2.1, hq.2.2.1, by omega⟩)

end Go.Proofs.Ytkbjgmfghhgodaa.Pure
