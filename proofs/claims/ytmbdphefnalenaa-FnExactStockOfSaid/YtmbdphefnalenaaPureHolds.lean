/- The pure side of the laws' own helpers for holds and stocks: counted, copied, compared. -/
import Derived.Test.YtmbdphefnalenaaPureStock
import Derived.Test.YtmbdphefnalenaaZv0
import Derived.Test.YtmbdphefnalenaaZw1
namespace Go.Proofs.Ytmbdphefnalenaa.Pure
open Go.RowKit Go.Proofs.Ytmbdphefnalenaa.Print Go.Proofs.YtmbdphefnalenaaW.PrintWords Go.Proofs.YtmbdphefnalenaaW.PrintLast

/-- A hold of the laws, as a hold of the program. -/
def cvH (x : S116) : S49 := ⟨x.f0, x.f1⟩
theorem rdLH {l : List S116} {i : Nat} (h : i < l.length) : rd_T116 l (i : Nat) = l[i] := by
  simp [rd_T116, List.getD_eq_getElem?_getD, List.getElem?_eq_getElem h]
theorem szStock_eq (a : Int) (l : List S116) (n : Int) (hn : n ≤ 1048576) (h0 : 0 ≤ n) (hl : l.length ≤ 9223372036854775807) : laws_szStock.f a l n = some (if n < l.length then -1 else n - l.length) := by
  unfold laws_szStock.f laws_szHoldS.f
  rw [w64 (by omega) (by omega)]
  by_cases h : n < l.length
  · rw [if_pos (by omega), if_pos h]; rfl
  · rw [if_neg (by omega), if_neg h, Option.bind_some, if_neg (by omega)]
theorem toHoldS_loop (l : List S116) (hl : l.length ≤ 1048576) : ∀ (d k i : Nat) (x : List S49), i + d = l.length → d < k → x.length = l.length → (∀ j, j < i → x[j]? = (l.map cvH)[j]?) → laws_toHoldS.l0 k l x i = some (l.map cvH) := by
  intro d
  induction d with
  | zero =>
    intro k i x hi hk hx hj
    obtain ⟨k, rfl⟩ := ok_fuel (show 0 < k by omega)
    simp only [laws_toHoldS.l0]
    rw [if_neg (by omega)]
    congr 1
    apply List.ext_getElem?
    intro j
    by_cases h : j < i
    · exact hj j h
    · rw [List.getElem?_eq_none (by omega), List.getElem?_eq_none (by rw [List.length_map]; omega)]
  | succ d ih =>
    intro k i x hi hk hx hj
    obtain ⟨k, rfl⟩ := ok_fuel (show 0 < k by omega)
    simp only [laws_toHoldS.l0, laws_toHold.f, Option.bind_some]
    rw [if_pos (by omega), if_pos (by omega), if_pos (by omega), w64 (by omega) (by omega), i1, rdLH (show i < l.length by omega)]
    refine ih k (i + 1) _ (by omega) (by omega) (by rw [List.length_set]; exact hx) (fun j hjj => ?_)
    rw [Int.toNat_natCast, List.getElem?_set]
    by_cases h : i = j
    · subst h
      rw [if_pos rfl, if_pos (by omega), List.getElem?_map, List.getElem?_eq_getElem (by omega)]; rfl
    · rw [if_neg h]; exact hj j (by omega)
theorem toStock_eq (a : Int) (l : List S116) (hl : l.length ≤ 1048576) (k : Nat) (hk : l.length < k) : laws_toStock.f k a l = some (a, l.map cvH) := by
  unfold laws_toStock.f laws_toHoldS.f
  have h0 : ∀ x : List S49, x.length = l.length → laws_toHoldS.l0 k l x 0 = some (l.map cvH) := fun x hx => toHoldS_loop l hl l.length k 0 x (by omega) hk hx (fun j hj => by omega)
  rw [if_pos (by omega), if_pos (by omega), Int.toNat_natCast, h0 _ (by simp)]
  rfl
theorem eqHoldS_loop (l : List S49) (hl : l.length ≤ 1048576) : ∀ (d k i : Nat), i + d = l.length → d < k → laws_eqHoldS.l0 k l l i = some true := by
  intro d
  induction d with
  | zero =>
    intro k i hi hk
    obtain ⟨k, rfl⟩ := ok_fuel (show 0 < k by omega)
    simp only [laws_eqHoldS.l0]
    rw [if_neg (by omega)]
  | succ d ih =>
    intro k i hi hk
    obtain ⟨k, rfl⟩ := ok_fuel (show 0 < k by omega)
    simp only [laws_eqHoldS.l0, laws_eqHold.f, if_true, Option.bind_some]
    rw [if_pos (by omega), if_pos (by omega), if_pos (by omega), w64 (by omega) (by omega), i1]
    exact ih k (i + 1) (by omega) (by omega)
theorem eqStock_refl (a : Int) (l : List S49) (hl : l.length ≤ 1048576) (k : Nat) (hk : l.length < k) : laws_eqStock.f k a l a l = some true := by
  unfold laws_eqStock.f laws_eqHoldS.f
  have h0 : laws_eqHoldS.l0 k l l 0 = some true := eqHoldS_loop l hl l.length k 0 (by omega) hk
  rw [if_pos rfl, if_pos rfl, h0]
  rfl

end Go.Proofs.Ytmbdphefnalenaa.Pure
