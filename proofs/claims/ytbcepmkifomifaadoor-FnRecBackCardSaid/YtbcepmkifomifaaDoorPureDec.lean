/- The pure side of the reference's reading of one figure or two, and of its cutting of a text: both end. -/
import Derived.Test.YtbcepmkifomifaaDoorPureBase
import Derived.Test.YtbcepmkifomifaaDoorZj0
namespace Go.Proofs.YtbcepmkifomifaaDoor.Pure
open Go.RowKit Go.Proofs.YtbcepmkifomifaaDoor.Print Go.Proofs.YtbcepmkifomifaaDoorW.PrintWords Go.Proofs.YtbcepmkifomifaaDoorW.PrintLast

theorem l1Dec_loop (s : ByteArray) (hs : s.size ≤ 2) : ∀ (d k : Nat) (i : Nat) (n : Int), i + d = s.size → d < k → Ex (spec_l1Dec.l0 k s n i) (fun _ => True) := by
  intro d
  induction d with
  | zero =>
    intro k i n hi hk
    obtain ⟨k, rfl⟩ : ∃ m, k = m + 1 := ⟨k - 1, by omega⟩
    simp only [spec_l1Dec.l0]
    exact Ex.ite (fun h => by omega) (fun _ => Ex.ret trivial)
  | succ d ih =>
    intro k i n hi hk
    obtain ⟨k, rfl⟩ : ∃ m, k = m + 1 := ⟨k - 1, by omega⟩
    simp only [spec_l1Dec.l0]
    refine Ex.ite (fun _ => Ex.ite (fun _ => Ex.ite (fun _ => Ex.ret trivial) (fun _ => Ex.ite (fun _ => Ex.ret trivial) (fun _ => ?_))) (fun h => by omega)) (fun h => by omega)
    have e : wrap64 ((i : Int) + 1) = ((i + 1 : Nat) : Int) := by rw [w64 (by omega) (by omega)]; omega
    rw [e]
    exact ih k (i + 1) _ (by omega) (by omega)
theorem l1Dec_ex (k : Nat) (hk : 4 ≤ k) (s : ByteArray) : Ex (spec_l1Dec.f k s) (fun _ => True) := by
  unfold spec_l1Dec.f
  rw [in_spec]
  refine Ex.bindS (Ex.ite (fun h => ?_) (fun _ => Ex.ret trivial))
  have h : 1 ≤ (s.size : Int) ∧ (s.size : Int) ≤ 2 := by simpa using h
  exact l1Dec_loop s (by omega) s.size k 0 0 (by omega) (by omega)
theorem cut_lens (a : Int) : ∀ (l : List UInt8) (z : List ByteArray), z.length ≤ (l.foldl (spec_l1Cut.step a) z).length ∧ (l.foldl (spec_l1Cut.step a) z).length ≤ z.length + l.length
  | [], z => by simp
  | b :: l, z => by
    have h1 := cut_lens a l (spec_l1Cut.step a z b)
    have h2 : z.length ≤ (spec_l1Cut.step a z b).length ∧ (spec_l1Cut.step a z b).length ≤ z.length + 1 := by
      unfold spec_l1Cut.step
      split
      · simp
      · rw [List.length_set]; omega
    rw [List.foldl_cons, List.length_cons]
    omega
theorem l1Cut_ex (s : ByteArray) (hs : s.size ≤ 20) (a : Int) : Ex (spec_l1Cut.f s a) (fun p => 1 ≤ p.length ∧ p.length ≤ 21) := by
  unfold spec_l1Cut.f
  rw [if_pos (by omega)]
  refine Ex.ret ?_
  have h := cut_lens a s.data.toList [ByteArray.empty]
  have e : s.data.toList.length = s.size := rfl
  rw [List.length_singleton] at h
  omega

end Go.Proofs.YtbcepmkifomifaaDoor.Pure
