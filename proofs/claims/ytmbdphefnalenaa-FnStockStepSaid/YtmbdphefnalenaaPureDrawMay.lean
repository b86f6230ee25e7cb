/- A stock and a record that are drawn: the draw ends. -/
import Derived.Test.YtmbdphefnalenaaPureDrawStock
import Derived.Test.YtmbdphefnalenaaPureDrawRec
import Derived.Test.YtmbdphefnalenaaZa15
namespace Go.Proofs.Ytmbdphefnalenaa.Pure
open Go.RowKit Go.Proofs.Ytmbdphefnalenaa.Print Go.Proofs.YtmbdphefnalenaaW.PrintWords Go.Proofs.YtmbdphefnalenaaW.PrintLast

def MayDrawn (r : Int × List S49 × Int × Int × List Int) : Prop := r.2.1.length ≤ 6 ∧ r.2.2.2.2.length ≤ 4
theorem drawMay_j2 (k : Nat) (hk : 60 ≤ k) (b : List Int) (hb : Code b) (p a : Int) (l : List S49) (c t : Int) (m : List Int) (hp : 0 ≤ p) (hp2 : p ≤ 50000) (hl : l.length ≤ 6) (hm : m.length ≤ 4) : Ex (spec_DrawStockMay.j2 k b p a l c t m) MayDrawn := by
  obtain ⟨k, rfl⟩ := ok_fuel (show 0 < k by omega)
  simp only [spec_DrawStockMay.j2]
  refine Ex.bind (pick_ex _ b hb _ _ (by omega) (by omega) (by omega) (by omega) (by omega)) (fun r h => ?_)
  refine Ex.ite (fun _ => Ex.bind (l71RecV_ex k b hb _ (by omega) (by omega) (by omega)) (fun q hq => Ex.ret ⟨hl, hq.1⟩)) (fun _ => Ex.ret ⟨hl, hm⟩)
theorem drawMay_l0 (b : List Int) (hb : Code b) (a : Int) (l : List S49) (c : Int) (m : List Int) (hl : l.length ≤ 6) (hm : m.length ≤ 4) : ∀ (d k i : Nat) (p t : Int), i + d = 6 → d + 100 ≤ k → 0 ≤ p → p + 2 * d ≤ 50000 → Ex (spec_DrawStockMay.l0 k i b p a l c t m) MayDrawn := by
  intro d
  induction d with
  | zero =>
    intro k i p t hi hk hp hp2
    obtain ⟨k, rfl⟩ := ok_fuel (show 0 < k by omega)
    simp only [spec_DrawStockMay.l0]
    rw [if_neg (by omega)]
    exact drawMay_j2 k (by omega) b hb p a l c t m hp (by omega) hl hm
  | succ d ih =>
    intro k i p t hi hk hp hp2
    obtain ⟨k, rfl⟩ := ok_fuel (show 0 < k by omega)
    simp only [spec_DrawStockMay.l0]
    rw [if_pos (by omega), w64 (n := (i : Int) + 1) (by omega) (by omega), i1]
    refine Ex.bind (pick_ex _ b hb _ _ (by omega) (by omega) (by omega) (by omega) (by omega)) (fun r h => ?_)
    refine Ex.ite (fun _ => ?_) (fun _ => drawMay_j2 k (by omega) b hb _ a l c t m (by omega) (by omega) hl hm)
    rw [stockMay_spec a l c t m (by omega) (by omega) k (by omega)]
    refine Ex.bindS (Ex.ite (fun _ => drawMay_j2 k (by omega) b hb _ a l c t m (by omega) (by omega) hl hm) (fun _ => ?_))
    refine Ex.bind (pick_ex _ b hb _ _ (by omega) (by omega) (by omega) (by omega) (by omega)) (fun r2 h2 => ?_)
    exact ih k (i + 1) _ _ (by omega) (by omega) (by omega) (by omega)
theorem drawStockMay_ex (k : Nat) (l : List Int) (h : ∀ x ∈ l, (Lit.int .u8 x).wf = true) (hk : 150 ≤ k) : Ex (spec_DrawStockMay.f k l) MayDrawn := by
  obtain ⟨k, rfl⟩ := ok_fuel (show 0 < k by omega)
  unfold spec_DrawStockMay.f
  refine Ex.bind (open_ex l h) (fun r hr => ?_)
  refine Ex.bind (l71Stock_ex (k + 1) r.1 hr.1 _ (by omega) (by omega) (by omega)) (fun s hs => ?_)
  refine Ex.bind (pick_ex _ r.1 hr.1 _ _ (by omega) (by omega) (by omega) (by omega) (by omega)) (fun r1 h1 => ?_)
  refine Ex.bind (pick_ex _ r.1 hr.1 _ _ (by omega) (by omega) (by omega) (by omega) (by omega)) (fun r2 h2 => ?_)
  refine Ex.ite (fun _ => Ex.bind (pick_ex _ r.1 hr.1 _ _ (by omega) (by omega) (by omega) (by omega) (by omega)) (fun r3 h3 => ?_)) (fun _ => ?_)
  · simp only [spec_DrawStockMay.j0]
    exact drawMay_l0 r.1 hr.1 _ _ _ _ hs.2.1 (by simp) 6 k 0 _ _ (by omega) (by omega) (by omega) (by omega)
  · simp only [spec_DrawStockMay.j0]
    exact drawMay_l0 r.1 hr.1 _ _ _ _ hs.2.1 (by simp) 6 k 0 _ _ (by omega) (by omega) (by omega) (by omega)

end Go.Proofs.Ytmbdphefnalenaa.Pure
