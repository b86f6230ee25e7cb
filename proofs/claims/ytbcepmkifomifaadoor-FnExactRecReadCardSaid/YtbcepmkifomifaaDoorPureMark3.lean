/- The pure side of marks in a short list of numbers: what is marked is held. -/
import Derived.Test.YtbcepmkifomifaaDoorPureBase
import Derived.Test.YtbcepmkifomifaaDoorZm0
namespace Go.Proofs.YtbcepmkifomifaaDoor.Pure
open Go.RowKit Go.Proofs.YtbcepmkifomifaaDoor.Print Go.Proofs.YtbcepmkifomifaaDoorW.PrintWords Go.Proofs.YtbcepmkifomifaaDoorW.PrintLast

def upTo (n : Nat) : List Int := (List.range n).map fun j => ((j : Nat) : Int) + 1
theorem markInts3 (m : List Int) (hm : m.length ≤ 3) : laws_markIntS.f 10 m 1 = some ((m.length : Int) + 1, upTo m.length) := by
  match m, hm with
  | [], _ => rfl
  | [_], _ => simp [laws_markIntS.f, laws_markIntS.l0, wrap64, upTo, List.range, List.range.loop]
  | [_, _], _ => simp [laws_markIntS.f, laws_markIntS.l0, wrap64, upTo, List.range, List.range.loop]
  | [_, _, _], _ => simp [laws_markIntS.f, laws_markIntS.l0, wrap64, upTo, List.range, List.range.loop]
theorem heldInts3 (n : Nat) (hn : n ≤ 3) : laws_heldIntS.f 10 (upTo n) 1 = some ((n : Int) + 1) := by
  have h : n = 0 ∨ n = 1 ∨ n = 2 ∨ n = 3 := by omega
  rcases h with rfl | rfl | rfl | rfl <;> decide +kernel
theorem markRec3 (k : Nat) (hk : 10 ≤ k) (a b : Int) (m : List Int) (hm : m.length ≤ 3) : laws_markRec.f k a b m 1 = some ((m.length : Int) + 1, upTo m.length) := by
  unfold laws_markRec.f
  rw [at_rounds (g := fun k => laws_markIntS.f k m 1) (fun k => laws_markIntS.mono m 1 k) hk (markInts3 m hm)]
  rfl
theorem heldRec3 (k : Nat) (hk : 10 ≤ k) (a b : Int) (n : Nat) (hn : n ≤ 3) : laws_heldRec.f k a b (upTo n) 1 = some ((n : Int) + 1) := by
  unfold laws_heldRec.f
  rw [at_rounds (g := fun k => laws_heldIntS.f k (upTo n) 1) (fun k => laws_heldIntS.mono (upTo n) 1 k) hk (heldInts3 n hn)]
  simp only [Option.bind_some]
  rw [if_neg (by omega)]

end Go.Proofs.YtbcepmkifomifaaDoor.Pure
