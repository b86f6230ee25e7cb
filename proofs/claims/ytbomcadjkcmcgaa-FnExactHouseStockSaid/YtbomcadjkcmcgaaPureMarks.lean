/- The pure side of the laws' own marks: what is marked is held. -/
import Derived.Test.YtbomcadjkcmcgaaPureEqStock
import Derived.Test.YtbomcadjkcmcgaaZc3
namespace Go.Proofs.Ytbomcadjkcmcgaa.Pure
open Go.RowKit Go.Proofs.Ytbomcadjkcmcgaa.Print Go.Proofs.YtbomcadjkcmcgaaW.PrintWords Go.Proofs.YtbomcadjkcmcgaaW.PrintLast

/-- Holds that bear the marks from a on. -/
def Marked (a : Int) (L : List S72) : Prop := ∀ j : Nat, ∀ h : j < L.length, L[j] = ⟨a + 2 * j, a + 2 * j + 1⟩
theorem markHoldS_loop (n : Nat) (a : Int) (ha : 0 ≤ a) (hb : a + 2 * n ≤ 1000000000000) : ∀ (d k i : Nat) (x : List S72), x.length = n → i + d = n → d < k → (∀ j : Nat, ∀ h : j < x.length, j < i → x[j] = ⟨a + 2 * j, a + 2 * j + 1⟩) → Ex (laws_markHoldS.l0 k x (a + 2 * i) i) (fun r => r.1 = a + 2 * n ∧ r.2.length = n ∧ Marked a r.2) := by
  intro d
  induction d with
  | zero =>
    intro k i x hx hi hk hj
    obtain ⟨k, rfl⟩ := ok_fuel (show 0 < k by omega)
    simp only [laws_markHoldS.l0]
    rw [if_neg (by omega)]
    exact Ex.ret ⟨by dsimp only; omega, hx, fun j h => hj j h (by dsimp only at h; omega)⟩
  | succ d ih =>
    intro k i x hx hi hk hj
    obtain ⟨k, rfl⟩ := ok_fuel (show 0 < k by omega)
    simp only [laws_markHoldS.l0]
    have hil : i < x.length := by omega
    rw [if_pos (by omega), if_pos (by omega)]
    refine Ex.bindS ?_
    have e1 : wrap64 (a + 2 * (i : Int) + 1) = a + 2 * i + 1 := w64 (by omega) (by omega)
    have e2 : wrap64 (a + 2 * (i : Int) + 1 + 1) = a + 2 * ((i + 1 : Nat) : Int) := by rw [w64 (by omega) (by omega)]; omega
    have e3 : wrap64 ((i : Int) + 1) = ((i + 1 : Nat) : Int) := by rw [w64 (by omega) (by omega)]; omega
    have hr : ∀ v : S72, rd_T72 (x.set i v) (i : Int) = v := fun v => by rw [rdH (by rw [List.length_set]; exact hil), List.getElem_set_self]
    rw [e1, e2, e3, Int.toNat_natCast, hr]
    dsimp only
    refine ih k (i + 1) _ (by rw [List.length_set, List.length_set]; exact hx) (by omega) (by omega) (fun j h hji => ?_)
    rw [List.getElem_set]
    by_cases e : i = j
    · subst e; rw [if_pos rfl]
    · rw [if_neg e, List.getElem_set_ne e]
      exact hj j (by omega) (by omega)
theorem markStock_ex (w : Int) (l : List S72) (a : Int) (ha : 0 ≤ a) (hb : a + 2 * l.length ≤ 1000000000000) (k : Nat) (hk : l.length < k) : Ex (laws_markStock.f k w l a) (fun r => r.1 = a + 2 * l.length ∧ r.2.length = l.length ∧ Marked a r.2) := by
  unfold laws_markStock.f laws_markHoldS.f
  have := markHoldS_loop l.length a ha hb l.length k 0 l rfl (by omega) hk (fun j h hj => by omega)
  simp only [Int.ofNat_zero, Int.mul_zero, Int.add_zero] at this
  refine Ex.bind (P := fun r => r.1 = a + 2 * l.length ∧ r.2.length = l.length ∧ Marked a r.2) ?_ (fun r hr => Ex.ret hr)
  simpa using this
theorem heldHoldS_loop (L : List S72) (a : Int) (ha : 0 ≤ a) (hb : a + 2 * L.length ≤ 1000000000000) (hM : Marked a L) : ∀ (d k i : Nat), i + d = L.length → d < k → laws_heldHoldS.l0 k L (a + 2 * i) i = some (a + 2 * L.length) := by
  intro d
  induction d with
  | zero =>
    intro k i hi hk
    obtain ⟨k, rfl⟩ := ok_fuel (show 0 < k by omega)
    simp only [laws_heldHoldS.l0]
    rw [if_neg (by omega), show i = L.length by omega]
  | succ d ih =>
    intro k i hi hk
    obtain ⟨k, rfl⟩ := ok_fuel (show 0 < k by omega)
    simp only [laws_heldHoldS.l0]
    have hil : i < L.length := by omega
    have e1 : wrap64 (a + 2 * (i : Int) + 1) = a + 2 * i + 1 := w64 (by omega) (by omega)
    have e2 : wrap64 (a + 2 * (i : Int) + 1 + 1) = a + 2 * ((i + 1 : Nat) : Int) := by rw [w64 (by omega) (by omega)]; omega
    have e3 : wrap64 ((i : Int) + 1) = ((i + 1 : Nat) : Int) := by rw [w64 (by omega) (by omega)]; omega
    rw [if_pos (by omega), if_pos (by omega), rdH hil, hM i hil]
    dsimp only
    rw [if_pos rfl, e1, if_pos rfl, e2, e3]
    exact ih k (i + 1) (by omega) (by omega)
theorem heldStock_eq (w : Int) (L : List S72) (a : Int) (ha : 0 ≤ a) (hb : a + 2 * L.length ≤ 1000000000000) (hM : Marked a L) (k : Nat) (hk : L.length < k) : laws_heldStock.f k w L a = some (a + 2 * L.length) := by
  unfold laws_heldStock.f laws_heldHoldS.f
  have := heldHoldS_loop L a ha hb hM L.length k 0 (by omega) hk
  have e : a + 2 * ((0 : Nat) : Int) = a := by omega
  rw [e] at this
  have e2 : laws_heldHoldS.l0 k L a 0 = some (a + 2 * L.length) := this
  rw [e2, Option.bind_some, if_neg (by omega)]

end Go.Proofs.Ytbomcadjkcmcgaa.Pure
