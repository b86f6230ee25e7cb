/- A new stock has what it was made with: of every code the law is true. Proved: the law's one pure statement. No condition. -/
import Derived.Test.YtjccnaklodbbfaaPureStockOf
import Derived.Test.YtjccnaklodbbfaaPureLnStock
import Derived.Test.YtjccnaklodbbfaaPurePick
import Derived.Test.YtjccnaklodbbfaaZa1
namespace Go.Proofs.Ytjccnaklodbbfaa.Pure
open Go.RowKit Go.Proofs.Ytjccnaklodbbfaa.Print Go.Proofs.YtjccnaklodbbfaaW.PrintWords Go.Proofs.YtjccnaklodbbfaaW.PrintLast

theorem drawStockNew_ex (k : Nat) (l : List Int) (h : ∀ x ∈ l, (Lit.int .u8 x).wf = true) (hk : 1 ≤ k) : Ex (spec_DrawStockNew.f k l) (fun r => -1 ≤ r ∧ r ≤ 10) := by
  unfold spec_DrawStockNew.f
  refine Ex.bind (open_ex l h) (fun r hr => ?_)
  refine Ex.bind (pick_ex _ r.1 hr.1 _ _ (by omega) (by omega) (by omega) (by omega) (by omega)) (fun t ht => Ex.ret ?_)
  rw [w64 (by omega) (by omega)]; omega
theorem free_six {a : Int} : freeV a six = a := by simp [six, freeV, List.replicate, z46]
theorem FnStockNew : laws_FnStockNew.Pure := by
  intro l0 _ _ h0
  refine ⟨80, Ex.some_ ?_⟩
  unfold laws_FnStockNew.f
  refine Ex.ite (fun _ => Ex.ret rfl) (fun _ => Ex.bind (drawStockNew_ex 80 l0 h0 (by omega)) (fun a ha => ?_))
  rw [stockNew_spec, stockNew_impl]
  by_cases h : 0 ≤ a ∧ a ≤ 9
  · rw [if_pos h]
    simp only [Option.bind_some, bne_self_eq_false, laws_FnStockNew.j0]
    have h6 : six.length = 6 := by decide
    rw [if_neg (by simp), lnStock_refl a six (by omega) 80 (by omega)]
    simp only [Option.bind_some, if_true, Bool.not_true]
    rw [if_neg (by simp), stockOf_impl a [] (by simp) 79 (by simp), stockOk_impl a six 79 (by omega), six_well h]
    unfold impl_StockFree.f
    rw [stockOk_impl a six 79 (by omega), six_well h, free_impl six a (by omega) 79 (by omega), free_six]
    have e : stockOfV a [] = (a, six, true) := by unfold stockOfV; rw [if_pos h]; rfl
    simp only [Option.bind_some, if_true]
    rw [if_pos (by omega), e]
    simp only [if_true]
    rw [lnStock_refl a six (by omega) 79 (by omega)]
    exact ⟨true, rfl, rfl⟩
  · rw [if_neg h]
    simp only [Option.bind_some, bne_self_eq_false, laws_FnStockNew.j0]
    rw [if_neg (by simp), lnStock_refl 0 [] (by simp) 80 (by simp)]
    simp only [Option.bind_some, if_true, Bool.not_false]
    rw [if_pos (by rfl), lnStock_refl 0 [] (by simp) 79 (by simp)]
    exact ⟨true, rfl, rfl⟩

end Go.Proofs.Ytjccnaklodbbfaa.Pure
