/- A stock that holds less is well, and so is one with nothing left over, and no less: of every code the law is true. Proved: the law's one pure statement. No condition. -/
import Derived.Test.YtjccnaklodbbfaaPureDrawStock
import Derived.Test.YtjccnaklodbbfaaZo1
namespace Go.Proofs.Ytjccnaklodbbfaa.Pure
open Go.RowKit Go.Proofs.Ytjccnaklodbbfaa.Print Go.Proofs.YtjccnaklodbbfaaW.PrintWords Go.Proofs.YtjccnaklodbbfaaW.PrintLast

theorem drawStockOk_ex (k : Nat) (l : List Int) (h : ∀ x ∈ l, (Lit.int .u8 x).wf = true) (hk : 60 ≤ k) : Ex (spec_DrawStockOk.f k l) (fun r => r.2.length ≤ 6) := by
  unfold spec_DrawStockOk.f
  refine Ex.bind (open_ex l h) (fun r hr => ?_)
  exact Ex.bind (l71Stock_ex k r.1 hr.1 _ (by omega) (by omega) hk) (fun t ht => Ex.ret ht.2.1)
theorem well_of {a : Int} {l : List S46} (ha : 0 ≤ a ∧ a ≤ 9) (hl : l.length = 6) (hh : ∀ x ∈ l, holdB x.f0 x.f1 = true) (hu : used l ≤ a) : stockB a l = true := by
  have := free_used l a hh (by omega) (by omega) (by omega)
  unfold stockB
  simp only [Bool.and_eq_true, decide_eq_true_eq, List.all_eq_true]
  exact ⟨⟨⟨ha, hl⟩, hh⟩, by omega⟩
theorem stockLess_j1 (k : Nat) (hk : 60 ≤ k) (m : List Int) (a : Int) (l : List S46) (hl6 : l.length ≤ 6) : Ex (laws_FnStockLess.j1 k m (stockB a l) (!stockB a l) a l) (fun r => r = true) := by
  obtain ⟨k, rfl⟩ := ok_fuel (show 0 < k by omega)
  simp only [laws_FnStockLess.j1]
  rw [stockOk_spec a l (by omega) k (by omega), Option.bind_some]
  refine Ex.ite (fun _ => Ex.ret (by simp)) (fun h => ?_)
  have hs : stockB a l = true := by simpa using h
  obtain ⟨ha, hl, hh, hf⟩ := stock_parts hs
  obtain ⟨u1, u2, u3⟩ := stock_used hs
  rw [if_neg (by omega)]
  simp only [Option.bind_some, List.length_nil, List.nil_append]
  have e0 : 0 ≤ (m.length : Int) % (l.length : Int) := Int.emod_nonneg _ (by omega)
  have e1 : (m.length : Int) % (l.length : Int) < (l.length : Int) := Int.emod_lt_of_pos _ (by omega)
  generalize (m.length : Int) % (l.length : Int) = n at e0 e1
  obtain ⟨n, rfl⟩ := Int.eq_ofNat_of_zero_le e0
  have hnl : n < l.length := by omega
  unfold impl_StockFree.f
  have hset : ∀ x ∈ l.set n (⟨0, 0⟩ : S46), holdB x.f0 x.f1 = true := by
    intro x hx
    rcases List.mem_or_eq_of_mem_set hx with h | h
    · exact hh x h
    · subst h; decide
  have hus := used_set l n ⟨0, 0⟩ hnl
  have hw0 : wH (⟨0, 0⟩ : S46) = 0 := by decide
  have hwb := wH_bound (hh l[n] (List.getElem_mem hnl))
  have b1 : stockB a (l.set n ⟨0, 0⟩) = true := well_of ha (by rw [List.length_set]; exact hl) hset (by omega)
  have b2 : stockB (used l) l = true := well_of (by omega) hl hh (by omega)
  have b3 : stockB (used l - 1) l = false := by
    rw [Bool.eq_false_iff]
    intro hc
    have := stock_used hc
    have := stock_parts hc
    omega
  have f2 := (stock_used b2).1
  rw [if_pos (by omega), if_pos e0, if_pos e1, stockOk_impl a l k (by omega), hs, free_impl l a (by omega) k (by omega), Int.toNat_natCast, stockOk_impl a _ k (by omega), b1]
  simp only [Option.bind_some, if_true]
  have ew : wrap64 (a - freeV a l) = used l := by rw [w64 (by omega) (by omega)]; omega
  rw [ew, w64 (n := used l - 1) (by omega) (by omega), stockOk_impl (used l) l k (by omega), b2, free_impl l (used l) (by omega) k (by omega), stockOk_impl (used l - 1) l k (by omega), b3]
  simp only [Option.bind_some, if_true]
  rw [if_pos (by omega)]
  exact ⟨true, rfl, rfl⟩
theorem FnStockLess : laws_FnStockLess.Pure := by
  intro l0 l1 _ _ h0 _ _ _
  refine ⟨80, Ex.some_ ?_⟩
  have hj : ∀ c : Bool, Ex (laws_FnStockLess.j0 80 l0 l1 c) (fun r => r = true) := by
    intro c
    simp only [laws_FnStockLess.j0]
    refine Ex.ite (fun _ => Ex.ret rfl) (fun _ => Ex.bind (drawStockOk_ex 79 l0 h0 (by omega)) (fun r hr => ?_))
    rw [stockOk_impl r.1 r.2 79 (by omega), stockOk_spec r.1 r.2 (by omega) 79 (by omega)]
    simp only [Option.bind_some, bne_self_eq_false]
    rw [if_neg (by simp)]
    exact stockLess_j1 79 (by omega) l1 r.1 r.2 hr
  unfold laws_FnStockLess.f
  exact Ex.ite (fun _ => hj _) (fun _ => hj _)

end Go.Proofs.Ytjccnaklodbbfaa.Pure
