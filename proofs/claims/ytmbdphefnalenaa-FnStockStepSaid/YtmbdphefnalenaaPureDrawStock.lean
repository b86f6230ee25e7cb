/- Stocks that are drawn: the draw ends; the records that are drawn fit one behind the other. -/
import Derived.Test.YtmbdphefnalenaaPureStockOfSpec
import Derived.Test.YtmbdphefnalenaaPureStockDoSpec
import Derived.Test.YtmbdphefnalenaaPurePick
import Derived.Test.YtmbdphefnalenaaZa8
import Derived.Test.YtmbdphefnalenaaZa14
namespace Go.Proofs.Ytmbdphefnalenaa.Pure
open Go.RowKit Go.Proofs.Ytmbdphefnalenaa.Print Go.Proofs.YtmbdphefnalenaaW.PrintWords Go.Proofs.YtmbdphefnalenaaW.PrintLast

/-- The records drawn so far lead to this stock. -/
def Fits (a : Int) (rs : List S32) (l : List S49) : Prop := ofV a six rs = (a, l, true) ∧ ∀ x ∈ rs, x.f2.length ≤ 1 ∧ recB x.f0 x.f1 x.f2 = true
theorem Fits.add {a : Int} {rs : List S32} {l : List S49} (h : Fits a rs l) {c t : Int} {m : List Int} (hm : m.length ≤ 1) (hd : stockMayB a l c t m = true) : Fits a (rs ++ [⟨c, t, m⟩]) (doV l c t m) := by
  unfold stockMayB at hd
  simp only [Bool.and_eq_true] at hd
  refine ⟨?_, fun x hx => ?_⟩
  · rw [ofV_add a _ rs six (by rw [h.1]), h.1]
    simp only [ofV]
    rw [if_pos (by rw [Bool.and_eq_true]; exact ⟨hd.1.2, hd.2⟩)]
  · rcases List.mem_append.mp hx with h1 | h1
    · exact h.2 x h1
    · simp at h1; subst h1; exact ⟨hm, hd.1.2⟩
theorem l71Recs_l0 (b : List Int) (hb : Code b) (a : Int) : ∀ (n k : Nat) (p : Int) (rs : List S32) (l : List S49), n + 40 ≤ k → 0 ≤ p → p + 3 * n ≤ 100000 → rs.length + n ≤ 100 → Fits a rs l → stockB a l = true →
    Ex (spec_l71Recs.l0 k a rs n b p a l) (fun r => r.1 = a ∧ r.2.1.length ≤ rs.length + n ∧ (∃ l', Fits a r.2.1 l' ∧ stockB a l' = true) ∧ 0 ≤ r.2.2 ∧ r.2.2 ≤ p + 3 * n) := by
  intro n
  induction n with
  | zero =>
    intro k p rs l hk hp hp2 hr hf hs
    obtain ⟨k, rfl⟩ := ok_fuel (show 0 < k by omega)
    simp only [spec_l71Recs.l0]
    rw [if_neg (by omega)]
    exact Ex.ret ⟨rfl, by dsimp only; omega, ⟨l, hf, hs⟩, by dsimp only; omega, by dsimp only; omega⟩
  | succ n ih =>
    intro k p rs l hk hp hp2 hr hf hs
    obtain ⟨k, rfl⟩ := ok_fuel (show 0 < k by omega)
    simp only [spec_l71Recs.l0]
    have e : wrap64 (((n + 1 : Nat) : Int) - 1) = (n : Int) := by rw [w64 (by omega) (by omega)]; omega
    rw [if_pos (by omega), e]
    have h6 := (stock_parts hs).2.1
    refine Ex.bind (pick_ex _ b hb _ _ (by omega) (by omega) (by omega) (by omega) (by omega)) (fun r1 h1 => ?_)
    refine Ex.bind (pick_ex _ b hb _ _ (by omega) (by omega) (by omega) (by omega) (by omega)) (fun r2 h2 => ?_)
    refine Ex.bindS ?_
    have step : ∀ (c t : Int) (m : List Int) (q : Int), m.length ≤ 1 → p ≤ q → q ≤ p + 3 → Ex ((spec_StockDo.f k a l c t m).bind fun bt => (if bt.2.2 = true then (if rs.length < 3518437208883 then (spec_l71Recs.l0 k a (rs ++ [(⟨c, t, m⟩ : S32)]) n b q bt.1 bt.2.1) else none) else (spec_l71Recs.l0 k a rs n b q a l))) (fun r => r.1 = a ∧ r.2.1.length ≤ rs.length + (n + 1 : Nat) ∧ (∃ l', Fits a r.2.1 l' ∧ stockB a l' = true) ∧ 0 ≤ r.2.2 ∧ r.2.2 ≤ p + 3 * (n + 1 : Nat)) := by
      intro c t m q hm hq hq2
      rw [stockDo_spec a l c t m (by omega) (by omega) k (by omega)]
      refine Ex.bindS ?_
      unfold stockDoV
      by_cases h : stockMayB a l c t m = true
      · rw [if_pos h, if_pos rfl, if_pos (by omega)]
        have h' := h
        unfold stockMayB at h'
        simp only [Bool.and_eq_true] at h'
        refine (ih k q _ _ (by omega) (by omega) (by omega) (by simp only [List.length_append, List.length_singleton]; omega) (hf.add hm h) (do_well hs h'.1.2 h'.2)).mono (fun r hr => ?_)
        obtain ⟨g1, g2, g3, g4, g5⟩ := hr
        simp only [List.length_append, List.length_singleton] at g2
        exact ⟨g1, by omega, g3, g4, by omega⟩
      · rw [if_neg h, if_neg (by simp)]
        refine (ih k q _ _ (by omega) (by omega) (by omega) (by omega) hf hs).mono (fun r hr => ?_)
        obtain ⟨g1, g2, g3, g4, g5⟩ := hr
        exact ⟨g1, by omega, g3, g4, by omega⟩
    refine Ex.ite (fun _ => ?_) (fun _ => ?_)
    · refine Ex.bind (pick_ex _ b hb _ _ (by omega) (by omega) (by omega) (by omega) (by omega)) (fun r3 h3 => ?_)
      refine Ex.bindS ?_
      exact step _ _ [wrap64 (1 + r3.1)] r3.2 (by simp) (by omega) (by omega)
    · exact step _ _ [] r2.2 (by simp) (by omega) (by omega)
theorem l71Recs_ex (k : Nat) (b : List Int) (hb : Code b) (p : Int) (hp : 0 ≤ p) (hp2 : p ≤ 50000) (hk : 60 ≤ k) :
    Ex (spec_l71Recs.f k b p) (fun r => (0 ≤ r.1 ∧ r.1 ≤ 7) ∧ r.2.1.length ≤ 13 ∧ (∃ l', Fits r.1 r.2.1 l' ∧ stockB r.1 l' = true) ∧ 0 ≤ r.2.2 ∧ r.2.2 ≤ p + 60) := by
  unfold spec_l71Recs.f
  refine Ex.bind (pick_ex _ b hb _ _ (by omega) (by omega) (by omega) (by omega) (by omega)) (fun r1 h1 => ?_)
  rw [stockNew_spec, if_pos (by omega)]
  refine Ex.bindS ?_
  refine Ex.bind (pick_ex _ b hb _ _ (by omega) (by omega) (by omega) (by omega) (by omega)) (fun r2 h2 => ?_)
  obtain ⟨n, hn⟩ := Int.eq_ofNat_of_zero_le h2.1
  rw [hn]
  refine (l71Recs_l0 b hb r1.1 n k r2.2 [] six (by omega) (by omega) (by omega) (by simp only [List.length_nil]; omega) ⟨rfl, fun x hx => by simp at hx⟩ (six_well (by omega))).mono (fun r hr => ?_)
  obtain ⟨g1, g2, g3, g4, g5⟩ := hr
  simp only [List.length_nil] at g2
  rw [g1]
  exact ⟨by omega, by omega, g3, g4, by omega⟩
theorem Fits.of {a : Int} {rs : List S32} {l : List S49} (h : Fits a rs l) (ha : 0 ≤ a ∧ a ≤ 9) : stockOfV a rs = (a, l, true) := by
  unfold stockOfV
  rw [if_pos ha]; exact h.1
/-- Every number of a stock is small. -/
def Small (l : List S49) : Prop := ∀ x ∈ l, (-100 ≤ x.f0 ∧ x.f0 ≤ 100)
theorem well_small {a : Int} {l : List S49} (h : stockB a l = true) : Small l := by
  intro x hx
  have := (stock_parts h).2.2.1 x hx
  unfold holdB at this
  by_cases h0 : x.f1 = 0
  · rw [if_pos h0] at this; simp at this; omega
  · rw [if_neg h0] at this
    by_cases h1 : x.f1 = 1 ∨ x.f1 = 2
    · rw [if_pos h1] at this; simp at this; omega
    · rw [if_neg h1] at this
      by_cases h3 : x.f1 = 3
      · rw [if_pos h3] at this; simp at this; omega
      · rw [if_neg h3] at this; cases this
theorem l71Stock_ex (k : Nat) (b : List Int) (hb : Code b) (p : Int) (hp : 0 ≤ p) (hp2 : p ≤ 50000) (hk : 60 ≤ k) :
    Ex (spec_l71Stock.f k b p) (fun r => (-1 ≤ r.1 ∧ r.1 ≤ 10) ∧ r.2.1.length ≤ 6 ∧ Small r.2.1 ∧ 0 ≤ r.2.2 ∧ r.2.2 ≤ p + 70) := by
  unfold spec_l71Stock.f
  refine Ex.bind (l71Recs_ex k b hb p hp hp2 hk) (fun r h => ?_)
  obtain ⟨ha, hl, ⟨l, hf, hs⟩, hp3, hp4⟩ := h
  rw [stockOf_spec r.1 r.2.1 (by omega) 1 (fun x hx => (hf.2 x hx).1) (by omega) k (by omega), hf.of (by omega)]
  refine Ex.bindS ?_
  dsimp only
  have h6 := (stock_parts hs).2.1
  have hsm := well_small hs
  refine Ex.bind (pick_ex _ b hb _ _ (by omega) (by omega) (by omega) (by omega) (by omega)) (fun r2 h2 => ?_)
  refine Ex.ite (fun _ => ?_) (fun _ => Ex.ite (fun _ => ?_) (fun _ => Ex.ite (fun _ => Ex.ite (fun _ => Ex.ret ?_) (fun h => by omega)) (fun _ => Ex.ret ?_)))
  · refine Ex.bindS ?_
    refine Ex.bind (pick_ex _ b hb _ _ (by omega) (by omega) (by omega) (by omega) (by omega)) (fun r3 h3 => ?_)
    refine Ex.ite (fun _ => Ex.ite (fun _ => Ex.ret ⟨?_, by dsimp only; omega, hsm, by dsimp only; omega, by dsimp only; omega⟩) (fun h => by simp at h; omega)) (fun h => by omega)
    have : r3.1 = 0 ∨ r3.1 = 1 ∨ r3.1 = 2 := by omega
    rcases this with e | e | e <;> (dsimp only; rw [e]; decide)
  · rw [h6]
    refine Ex.bind (pick_ex _ b hb _ _ (by omega) (by omega) (by omega) (by omega) (by omega)) (fun r3 h3 => ?_)
    refine Ex.bind (pick_ex _ b hb _ _ (by omega) (by omega) (by omega) (by omega) (by omega)) (fun r4 h4 => ?_)
    refine Ex.bind (pick_ex _ b hb _ _ (by omega) (by omega) (by omega) (by omega) (by omega)) (fun r5 h5 => ?_)
    refine Ex.ite (fun _ => Ex.ite (fun _ => Ex.ret ⟨by dsimp only; omega, by simp only [List.length_set]; omega, fun x hx => ?_, by dsimp only; omega, by dsimp only; omega⟩) (fun h => by omega)) (fun h => by omega)
    rcases List.mem_or_eq_of_mem_set hx with h | h
    · exact hsm x h
    · subst h; dsimp only; omega
  · exact ⟨by dsimp only; omega, by simp only [List.length_drop]; omega, fun x hx => hsm x (List.mem_of_mem_drop hx), by dsimp only; omega, by dsimp only; omega⟩
  · exact ⟨by dsimp only; omega, by dsimp only; omega, hsm, by dsimp only; omega, by dsimp only; omega⟩

end Go.Proofs.Ytmbdphefnalenaa.Pure
