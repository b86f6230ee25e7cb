/- The pure side of the laws' own helpers for records and logs: counted, copied, compared. -/
import Derived.Test.YtbomcadjkcmcgaaPureLog
import Derived.Test.YtbomcadjkcmcgaaPureInts
import Derived.Test.YtbomcadjkcmcgaaZa5
import Derived.Test.YtbomcadjkcmcgaaZa0
import Derived.Test.YtbomcadjkcmcgaaZa11
namespace Go.Proofs.Ytbomcadjkcmcgaa.Pure
open Go.RowKit Go.Proofs.Ytbomcadjkcmcgaa.Print Go.Proofs.YtbomcadjkcmcgaaW.PrintWords Go.Proofs.YtbomcadjkcmcgaaW.PrintLast

/-- A record of the laws, as a record of the program. -/
def cvR (x : S75) : S62 := ⟨x.f0, x.f1, x.f2⟩
theorem rdLR {l : List S75} {i : Nat} (h : i < l.length) : rd_T75 l (i : Nat) = l[i] := by
  simp [rd_T75, List.getD_eq_getElem?_getD, List.getElem?_eq_getElem h]
theorem szRecS_loop (l : List S75) (hl : l.length ≤ 1048576) (hM : ∀ x ∈ l, x.f2.length ≤ 9223372036854775807) : ∀ (d k i : Nat) (n : Int), i + d = l.length → d < k → 0 ≤ n → n ≤ 1048576 → Ex (laws_szRecS.l0 k l n i) (fun r => r ≤ 1048576 ∧ (0 ≤ r → ∀ j (h : j < l.length), i ≤ j → l[j].f2.length ≤ 1048576)) := by
  intro d
  induction d with
  | zero =>
    intro k i n hi hk h0 hn
    obtain ⟨k, rfl⟩ := lfuel (show 0 < k by omega)
    simp only [laws_szRecS.l0]
    rw [if_neg (by omega)]
    exact Ex.ret ⟨hn, fun _ j h1 h2 => by omega⟩
  | succ d ih =>
    intro k i n hi hk h0 hn
    obtain ⟨k, rfl⟩ := lfuel (show 0 < k by omega)
    simp only [laws_szRecS.l0, laws_szRec.f]
    have hil : i < l.length := by omega
    have hx := hM l[i] (List.getElem_mem hil)
    rw [if_pos (by omega), if_pos (by omega), w64 (n := (i : Int) + 1) (by omega) (by omega), li1, rdLR hil, szIntS_eq _ _ hn h0 hx, Option.bind_some]
    by_cases h : n < l[i].f2.length
    · rw [if_pos h]
      exact Ex.ret ⟨by omega, fun h => by omega⟩
    · rw [if_neg h, if_neg (by omega), Option.bind_some, if_neg (by omega)]
      refine (ih k (i + 1) _ (by omega) (by omega) (by omega) (by omega)).mono (fun r ⟨h1, h2⟩ => ⟨h1, fun hr j hj hij => ?_⟩)
      by_cases e : j = i
      · subst e; omega
      · exact h2 hr j hj (by omega)
theorem szLog_ex (l : List S75) (c : Int) (hl : l.length ≤ 9223372036854775807) (hM : ∀ x ∈ l, x.f2.length ≤ 9223372036854775807) (k : Nat) (hk : 1048577 ≤ k) : Ex (laws_szLog.f k l c 1048576) (fun r => 0 ≤ r → l.length ≤ 1048576 ∧ ∀ x ∈ l, x.f2.length ≤ 1048576) := by
  unfold laws_szLog.f laws_szRecS.f
  rw [w64 (by omega) (by omega)]
  by_cases h : (1048576 : Int) < l.length
  · rw [if_pos (by omega)]
    exact Ex.ret (fun h => by omega)
  · rw [if_neg (by omega)]
    refine Ex.bind (szRecS_loop l (by omega) hM l.length k 0 _ (by omega) (by omega) (by omega) (by omega)) (fun r hr => Ex.ite (fun _ => Ex.ret (fun h => by omega)) (fun h0 => Ex.ret (fun _ => ⟨by omega, fun x hx => ?_⟩)))
    obtain ⟨j, hj, rfl⟩ := List.getElem_of_mem hx
    exact hr.2 (by omega) j hj (by omega)
theorem toRecS_loop (l : List S75) (hl : l.length ≤ 1048576) (hM : ∀ x ∈ l, x.f2.length ≤ 1048576) : ∀ (d k i : Nat) (x : List S62), i + d = l.length → d + 1048577 < k → x.length = l.length → (∀ j, j < i → x[j]? = (l.map cvR)[j]?) → laws_toRecS.l0 k l x i = some (l.map cvR) := by
  intro d
  induction d with
  | zero =>
    intro k i x hi hk hx hj
    obtain ⟨k, rfl⟩ := lfuel (show 0 < k by omega)
    simp only [laws_toRecS.l0]
    rw [if_neg (by omega)]
    congr 1
    apply List.ext_getElem?
    intro j
    by_cases h : j < i
    · exact hj j h
    · rw [List.getElem?_eq_none (by omega), List.getElem?_eq_none (by rw [List.length_map]; omega)]
  | succ d ih =>
    intro k i x hi hk hx hj
    obtain ⟨k, rfl⟩ := lfuel (show 0 < k by omega)
    have hil : i < l.length := by omega
    have hq := hM l[i] (List.getElem_mem hil)
    simp only [laws_toRecS.l0, laws_toRec.f]
    rw [if_pos (by omega), if_pos (by omega), w64 (n := (i : Int) + 1) (by omega) (by omega), li1, rdLR hil, toIntS_eq _ hq k (by omega)]
    simp only [Option.bind_some]
    rw [if_pos (by omega)]
    refine ih k (i + 1) _ (by omega) (by omega) (by rw [List.length_set]; exact hx) (fun j hjj => ?_)
    rw [Int.toNat_natCast, List.getElem?_set]
    by_cases h : i = j
    · subst h
      rw [if_pos rfl, if_pos (by omega), List.getElem?_map, List.getElem?_eq_getElem (by omega)]; rfl
    · rw [if_neg h]; exact hj j (by omega)
theorem toLog_eq (l : List S75) (c : Int) (hl : l.length ≤ 1048576) (hM : ∀ x ∈ l, x.f2.length ≤ 1048576) (k : Nat) (hk : 2097154 < k) : laws_toLog.f k l c = some (l.map cvR, c) := by
  unfold laws_toLog.f laws_toRecS.f
  have h0 : ∀ x : List S62, x.length = l.length → laws_toRecS.l0 k l x 0 = some (l.map cvR) := fun x hx => toRecS_loop l hl hM l.length k 0 x (by omega) (by omega) hx (fun j hj => by omega)
  rw [if_pos (by omega), if_pos (by omega), Int.toNat_natCast, h0 _ (by simp)]
  rfl
theorem eqRecS_loop (l : List S62) (hl : l.length ≤ 1048576) (hM : ∀ x ∈ l, x.f2.length ≤ 1048576) : ∀ (d k i : Nat), i + d = l.length → d + 1048577 < k → laws_eqRecS.l0 k l l i = some true := by
  intro d
  induction d with
  | zero =>
    intro k i hi hk
    obtain ⟨k, rfl⟩ := lfuel (show 0 < k by omega)
    simp only [laws_eqRecS.l0]
    rw [if_neg (by omega)]
  | succ d ih =>
    intro k i hi hk
    obtain ⟨k, rfl⟩ := lfuel (show 0 < k by omega)
    have hil : i < l.length := by omega
    have hq := hM l[i] (List.getElem_mem hil)
    simp only [laws_eqRecS.l0, laws_eqRec.f, if_true]
    rw [if_pos (by omega), if_pos (by omega), if_pos (by omega), w64 (n := (i : Int) + 1) (by omega) (by omega), li1, rdR hil, eqIntS_eq _ _ hq k (by omega)]
    simp only [decide_true, Option.bind_some, if_true]
    exact ih k (i + 1) (by omega) (by omega)
theorem eqLog_refl (l : List S62) (c : Int) (hl : l.length ≤ 1048576) (hM : ∀ x ∈ l, x.f2.length ≤ 1048576) (k : Nat) (hk : 2097154 < k) : laws_eqLog.f k l c l c = some true := by
  unfold laws_eqLog.f laws_eqRecS.f
  have h0 : laws_eqRecS.l0 k l l 0 = some true := eqRecS_loop l hl hM l.length k 0 (by omega) (by omega)
  rw [if_pos rfl, h0]
  simp

end Go.Proofs.Ytbomcadjkcmcgaa.Pure
