/- The pure side of the laws' own helpers for trips: counted, copied, compared. -/
import Derived.Test.YtjccnaklodbbfaaPureTripsOk
import Derived.Test.YtjccnaklodbbfaaPureInts
import Derived.Test.YtjccnaklodbbfaaZu1
import Derived.Test.YtjccnaklodbbfaaZu3
namespace Go.Proofs.Ytjccnaklodbbfaa.Pure
open Go.RowKit Go.Proofs.Ytjccnaklodbbfaa.Print Go.Proofs.YtjccnaklodbbfaaW.PrintWords Go.Proofs.YtjccnaklodbbfaaW.PrintLast

/-- A trip of the laws, as a trip of the program. -/
def cvT (x : S113) : S73 := ⟨x.f0, x.f1⟩
theorem rdLT {l : List S113} {i : Nat} (h : i < l.length) : rd_T113 l (i : Nat) = l[i] := by
  simp [rd_T113, List.getD_eq_getElem?_getD, List.getElem?_eq_getElem h]
theorem szTripS_loop (l : List S113) (hl : l.length ≤ 1048576) (hM : ∀ x ∈ l, x.f0.length ≤ 9223372036854775807) : ∀ (d k i : Nat) (n : Int), i + d = l.length → d < k → 0 ≤ n → n ≤ 1048576 → Ex (laws_szTripS.l0 k l n i) (fun r => r ≤ 1048576 ∧ (0 ≤ r → ∀ j (h : j < l.length), i ≤ j → l[j].f0.length ≤ 1048576)) := by
  intro d
  induction d with
  | zero =>
    intro k i n hi hk h0 hn
    obtain ⟨k, rfl⟩ := tfuel (show 0 < k by omega)
    simp only [laws_szTripS.l0]
    rw [if_neg (by omega)]
    exact Ex.ret ⟨hn, fun _ j h1 h2 => by omega⟩
  | succ d ih =>
    intro k i n hi hk h0 hn
    obtain ⟨k, rfl⟩ := tfuel (show 0 < k by omega)
    simp only [laws_szTripS.l0, laws_szTrip.f]
    have hil : i < l.length := by omega
    have hx := hM l[i] (List.getElem_mem hil)
    rw [if_pos (by omega), if_pos (by omega), w64 (n := (i : Int) + 1) (by omega) (by omega), ti1, rdLT hil, szIntS_eq _ _ hn h0 hx, Option.bind_some]
    by_cases h : n < l[i].f0.length
    · rw [if_pos h]
      exact Ex.ret ⟨by omega, fun h => by omega⟩
    · rw [if_neg h, if_neg (by omega), Option.bind_some, if_neg (by omega)]
      refine (ih k (i + 1) _ (by omega) (by omega) (by omega) (by omega)).mono (fun r ⟨h1, h2⟩ => ⟨h1, fun hr j hj hij => ?_⟩)
      by_cases e : j = i
      · subst e; omega
      · exact h2 hr j hj (by omega)
theorem szTripS_ex (l : List S113) (hl : l.length ≤ 9223372036854775807) (hM : ∀ x ∈ l, x.f0.length ≤ 9223372036854775807) (k : Nat) (hk : 1048577 ≤ k) : Ex (laws_szTripS.f k l 1048576) (fun r => r ≤ 1048576 ∧ (0 ≤ r → l.length ≤ 1048576 ∧ ∀ x ∈ l, x.f0.length ≤ 1048576)) := by
  unfold laws_szTripS.f
  rw [w64 (by omega) (by omega)]
  by_cases h : (1048576 : Int) < l.length
  · rw [if_pos (by omega)]
    exact Ex.ret ⟨by omega, fun h => by omega⟩
  · rw [if_neg (by omega)]
    refine (szTripS_loop l (by omega) hM l.length k 0 _ (by omega) (by omega) (by omega) (by omega)).mono (fun r hr => ⟨hr.1, fun h0 => ⟨by omega, fun x hx => ?_⟩⟩)
    obtain ⟨j, hj, rfl⟩ := List.getElem_of_mem hx
    exact hr.2 (by omega) j hj (by omega)
theorem toTripS_loop (l : List S113) (hl : l.length ≤ 1048576) (hM : ∀ x ∈ l, x.f0.length ≤ 1048576) : ∀ (d k i : Nat) (x : List S73), i + d = l.length → d + 1048577 < k → x.length = l.length → (∀ j, j < i → x[j]? = (l.map cvT)[j]?) → laws_toTripS.l0 k l x i = some (l.map cvT) := by
  intro d
  induction d with
  | zero =>
    intro k i x hi hk hx hj
    obtain ⟨k, rfl⟩ := tfuel (show 0 < k by omega)
    simp only [laws_toTripS.l0]
    rw [if_neg (by omega)]
    congr 1
    apply List.ext_getElem?
    intro j
    by_cases h : j < i
    · exact hj j h
    · rw [List.getElem?_eq_none (by omega), List.getElem?_eq_none (by rw [List.length_map]; omega)]
  | succ d ih =>
    intro k i x hi hk hx hj
    obtain ⟨k, rfl⟩ := tfuel (show 0 < k by omega)
    have hil : i < l.length := by omega
    have hq := hM l[i] (List.getElem_mem hil)
    simp only [laws_toTripS.l0, laws_toTrip.f]
    rw [if_pos (by omega), if_pos (by omega), w64 (n := (i : Int) + 1) (by omega) (by omega), ti1, rdLT hil, toIntS_eq _ hq k (by omega)]
    simp only [Option.bind_some]
    rw [if_pos (by omega)]
    refine ih k (i + 1) _ (by omega) (by omega) (by rw [List.length_set]; exact hx) (fun j hjj => ?_)
    rw [Int.toNat_natCast, List.getElem?_set]
    by_cases h : i = j
    · subst h
      rw [if_pos rfl, if_pos (by omega), List.getElem?_map, List.getElem?_eq_getElem (by omega)]; rfl
    · rw [if_neg h]; exact hj j (by omega)
theorem toTripS_eq (l : List S113) (hl : l.length ≤ 1048576) (hM : ∀ x ∈ l, x.f0.length ≤ 1048576) (k : Nat) (hk : 2097154 < k) : laws_toTripS.f k l = some (l.map cvT) := by
  unfold laws_toTripS.f
  have h0 : ∀ x : List S73, x.length = l.length → laws_toTripS.l0 k l x 0 = some (l.map cvT) := fun x hx => toTripS_loop l hl hM l.length k 0 x (by omega) (by omega) hx (fun j hj => by omega)
  rw [if_pos (by omega), if_pos (by omega), Int.toNat_natCast, h0 _ (by simp)]
theorem eqTripS_loop (l : List S73) (hl : l.length ≤ 1048576) (hM : ∀ x ∈ l, x.f0.length ≤ 1048576) : ∀ (d k i : Nat), i + d = l.length → d + 1048577 < k → laws_eqTripS.l0 k l l i = some true := by
  intro d
  induction d with
  | zero =>
    intro k i hi hk
    obtain ⟨k, rfl⟩ := tfuel (show 0 < k by omega)
    simp only [laws_eqTripS.l0]
    rw [if_neg (by omega)]
  | succ d ih =>
    intro k i hi hk
    obtain ⟨k, rfl⟩ := tfuel (show 0 < k by omega)
    have hil : i < l.length := by omega
    have hq := hM l[i] (List.getElem_mem hil)
    simp only [laws_eqTripS.l0, laws_eqTrip.f, if_true]
    rw [if_pos (by omega), if_pos (by omega), if_pos (by omega), w64 (n := (i : Int) + 1) (by omega) (by omega), ti1, rdT hil, eqIntS_eq _ _ hq k (by omega)]
    simp only [decide_true, Option.bind_some, if_true]
    exact ih k (i + 1) (by omega) (by omega)
theorem eqTripS_refl (l : List S73) (hl : l.length ≤ 1048576) (hM : ∀ x ∈ l, x.f0.length ≤ 1048576) (k : Nat) (hk : 2097154 < k) : laws_eqTripS.f k l l = some true := by
  unfold laws_eqTripS.f
  have h0 : laws_eqTripS.l0 k l l 0 = some true := eqTripS_loop l hl hM l.length k 0 (by omega) (by omega)
  rw [if_pos rfl, h0]

end Go.Proofs.Ytjccnaklodbbfaa.Pure
