/- What is free is the whole less what is bound and spent: of every code the law is true. Proved: the law's one pure statement. No condition. -/
import Derived.Test.YtjccnaklodbbfaaPureDrawStock
import Derived.Test.YtjccnaklodbbfaaZp0
namespace Go.Proofs.Ytjccnaklodbbfaa.Pure
open Go.RowKit Go.Proofs.Ytjccnaklodbbfaa.Print Go.Proofs.YtjccnaklodbbfaaW.PrintWords Go.Proofs.YtjccnaklodbbfaaW.PrintLast

theorem drawStockFree_ex (k : Nat) (l : List Int) (h : ∀ x ∈ l, (Lit.int .u8 x).wf = true) (hk : 60 ≤ k) : Ex (spec_DrawStockFree.f k l) (fun r => r.2.length ≤ 6) := by
  unfold spec_DrawStockFree.f
  refine Ex.bind (open_ex l h) (fun r hr => ?_)
  exact Ex.bind (l71Stock_ex k r.1 hr.1 _ (by omega) (by omega) hk) (fun t ht => Ex.ret ht.2.1)
theorem stockFree_loop (v a : Int) (l : List S46) (hl : l.length = 6) (hh : ∀ x ∈ l, holdB x.f0 x.f1 = true) (hv : v = a - used l) (h0 : 0 ≤ v) (hv2 : v ≤ 100) : ∀ (d k i : Nat) (s : Int), i + d = l.length → d < k → s + used (l.drop i) = used l → 0 ≤ s → s ≤ 3 * i → laws_FnStockFree.l0 k v s i a l = some true := by
  intro d
  induction d with
  | zero =>
    intro k i s hi hk hs hs0 hs1
    obtain ⟨k, rfl⟩ := ok_fuel (show 0 < k by omega)
    simp only [laws_FnStockFree.l0]
    rw [List.drop_eq_nil_of_le (by omega)] at hs
    simp only [used] at hs
    rw [if_neg (by omega), w64 (by omega) (by omega), if_pos (by omega), decide_eq_true (by omega)]
  | succ d ih =>
    intro k i s hi hk hs hs0 hs1
    obtain ⟨k, rfl⟩ := ok_fuel (show 0 < k by omega)
    have hil : i < l.length := by omega
    have hw := wH_bound (hh l[i] (List.getElem_mem hil))
    rw [List.drop_eq_getElem_cons hil] at hs
    simp only [used] at hs
    simp only [laws_FnStockFree.l0]
    rw [if_pos (by omega), if_pos (by omega), w64 (n := (i : Int) + 1) (by omega) (by omega), i1, rdH hil]
    by_cases h1 : l[i].f1 = 1
    · have e : wH l[i] = l[i].f0 := by unfold wH; rw [if_pos (.inl h1)]
      rw [if_pos h1, w64 (by omega) (by omega)]
      exact ih k (i + 1) _ (by omega) (by omega) (by omega) (by omega) (by omega)
    · rw [if_neg h1]
      by_cases h2 : l[i].f1 = 2
      · have e : wH l[i] = l[i].f0 := by unfold wH; rw [if_pos (.inr h2)]
        rw [if_pos h2, w64 (by omega) (by omega)]
        exact ih k (i + 1) _ (by omega) (by omega) (by omega) (by omega) (by omega)
      · have e : wH l[i] = 0 := by unfold wH; rw [if_neg (by omega)]
        rw [if_neg h2]
        exact ih k (i + 1) _ (by omega) (by omega) (by omega) (by omega) (by omega)
theorem FnStockFree : laws_FnStockFree.Pure := by
  intro l0 _ _ h0
  refine ⟨80, Ex.some_ ?_⟩
  unfold laws_FnStockFree.f
  refine Ex.ite (fun _ => Ex.ret rfl) (fun _ => Ex.bind (drawStockFree_ex 80 l0 h0 (by omega)) (fun r hr => ?_))
  obtain ⟨a, l⟩ := r
  dsimp only at hr
  unfold impl_StockFree.f spec_StockFree.f
  rw [stockOk_impl a l 80 (by omega), stockOk_spec a l (by omega) 80 (by omega)]
  simp only [Option.bind_some]
  by_cases h : stockB a l = true
  · obtain ⟨ha, hl, hh, hf⟩ := stock_parts h
    obtain ⟨u1, u2, u3⟩ := stock_used h
    rw [h, free_impl l a (by omega) 80 (by omega), free_spec l a (by omega) 80 (by omega)]
    simp only [if_true, Option.bind_some, laws_FnStockFree.j0, Bool.not_true]
    rw [if_neg (by simp)]
    refine ⟨true, stockFree_loop (freeV a l) a l hl hh u1 hf (by omega) 6 79 0 0 (by omega) (by omega) (by simp) (by omega) (by omega), rfl⟩
  · have hB : stockB a l = false := by simpa using h
    simp only [hB, Bool.false_eq_true, if_false, Option.bind_some, if_true, laws_FnStockFree.j0, Bool.not_false]
    unfold spec_StockFree.f
    rw [stockOk_spec a l (by omega) 79 (by omega), hB]
    exact ⟨true, rfl, rfl⟩

end Go.Proofs.Ytjccnaklodbbfaa.Pure
