/- Trips and a record that are drawn: the draw ends; what is drawn is short. -/
import Derived.Test.YtjccnaklodbbfaaPureDrawTrips
import Derived.Test.YtjccnaklodbbfaaZbb0
namespace Go.Proofs.Ytjccnaklodbbfaa.Pure
open Go.RowKit Go.Proofs.Ytjccnaklodbbfaa.Print Go.Proofs.YtjccnaklodbbfaaW.PrintWords Go.Proofs.YtjccnaklodbbfaaW.PrintLast

def MayDrawnT (r : List S73 × Int × Int × List Int) : Prop := r.1.length ≤ 8 ∧ ShortT r.1 ∧ r.2.2.2.length ≤ 4
theorem drawTripsMay_j1f (k : Nat) (hk : 4200 ≤ k) (b : List Int) (hb : Code b) (l : List S73) (i p c t : Int) (m : List Int) (hp : 0 ≤ p) (hp2 : p ≤ 60000) (hl : l.length ≤ 8) (hs : ShortT l) (hm : m.length ≤ 4) : Ex (spec_DrawTripsMay.j1 k l i false b p c t m) MayDrawnT := by
  obtain ⟨k, rfl⟩ := tfuel (show 0 < k by omega)
  simp only [spec_DrawTripsMay.j1]
  refine Ex.ite (fun h => by simp at h) (fun _ => ?_)
  refine Ex.bind (pick_ex _ b hb _ _ (by omega) (by omega) (by omega) (by omega) (by omega)) (fun r1 h1 => ?_)
  exact Ex.ite (fun _ => Ex.bind (l71RecV_ex _ b hb _ (by omega) (by omega) (by omega)) (fun r2 h2 => Ex.ret ⟨hl, hs, h2.1⟩)) (fun _ => Ex.ret ⟨hl, hs, hm⟩)
theorem drawTripsMay_l0 (b : List Int) (hb : Code b) (l : List S73) (hl : l.length ≤ 8) (hs : ShortT l) : ∀ (d k i : Nat) (p c t : Int) (m : List Int), i + d = 4 → 2 * d + 4300 ≤ k → 0 ≤ p → p + 4 * d ≤ 55000 → m.length ≤ 4 → Ex (spec_DrawTripsMay.l0 k l i b p c t m) MayDrawnT := by
  intro d
  induction d with
  | zero =>
    intro k i p c t m hi hk hp hp2 hm
    obtain ⟨k, rfl⟩ := tfuel (show 0 < k by omega)
    simp only [spec_DrawTripsMay.l0]
    rw [if_neg (by omega)]
    exact drawTripsMay_j1f k (by omega) b hb l i p c t m hp (by omega) hl hs hm
  | succ d ih =>
    intro k i p c t m hi hk hp hp2 hm
    obtain ⟨k, rfl⟩ := tfuel (show 0 < k by omega)
    simp only [spec_DrawTripsMay.l0]
    rw [if_pos (by omega)]
    refine Ex.ite (fun hgt => ?_) (fun _ => drawTripsMay_j1f k (by omega) b hb l i p c t m hp (by omega) hl hs hm)
    refine Ex.bind (pick_ex _ b hb _ _ (by omega) (by omega) (by omega) (by omega) (by omega)) (fun r1 h1 => ?_)
    by_cases hd : r1.1 > 0
    · rw [decide_eq_true hd]
      obtain ⟨k, rfl⟩ := tfuel (show 0 < k by omega)
      simp only [spec_DrawTripsMay.j1]
      refine Ex.ite (fun _ => ?_) (fun h => absurd trivial h)
      refine Ex.bind (pick_ex _ b hb _ _ (by omega) (by omega) (by omega) (by omega) (by omega)) (fun r2 h2 => ?_)
      refine Ex.bind (pick_ex _ b hb _ _ (by omega) (by omega) (by omega) (by omega) (by omega)) (fun r3 h3 => ?_)
      refine Ex.bindS ?_
      rw [tripsMay_spec l _ _ [] (by omega) 4 hs (by omega) (by simp) k (by simp only [List.length_nil]; omega)]
      refine Ex.bindS (Ex.ite (fun _ => Ex.ret ⟨hl, hs, by simp⟩) (fun _ => ?_))
      rw [w64 (n := (i : Int) + 1) (by omega) (by omega), ti1]
      exact ih k (i + 1) _ _ _ [] (by omega) (by omega) (by omega) (by omega) (by simp)
    · rw [decide_eq_false hd]
      exact drawTripsMay_j1f k (by omega) b hb l i _ c t m (by omega) (by omega) hl hs hm
theorem drawTripsMay_ex (k : Nat) (l : List Int) (h : ∀ x ∈ l, (Lit.int .u8 x).wf = true) (hk : 4400 ≤ k) : Ex (spec_DrawTripsMay.f k l) MayDrawnT := by
  unfold spec_DrawTripsMay.f
  refine Ex.bind (open_ex l h) (fun r hr => ?_)
  refine Ex.bind (l71TripList_ex k r.1 hr.1 _ (by omega) (by omega) (by omega)) (fun t ht => ?_)
  refine Ex.bind (l71Many_ex k r.1 hr.1 _ (by omega) (by omega) (by omega)) (fun u hu => ?_)
  exact drawTripsMay_l0 r.1 hr.1 t.1 (by omega) ht.2.1 4 k 0 _ _ _ _ (by omega) (by omega) (by omega) (by omega) (by omega)

end Go.Proofs.Ytjccnaklodbbfaa.Pure
