/- The program's StockNew returns what the reference's returns, for all arguments: the law's one pure statement. No condition. -/
import Derived.Test.YtkbjgmfghhgodaaPureBase
import Derived.Test.YtkbjgmfghhgodaaPrint10
namespace Go.Proofs.Ytkbjgmfghhgodaa.Pure
open Go.RowKit Go.Proofs.Ytkbjgmfghhgodaa.Print Go.Proofs.YtkbjgmfghhgodaaW.PrintWords Go.Proofs.YtkbjgmfghhgodaaW.PrintLast

def six : List S101 := List.replicate 6 z101
def sixM : List S101 := [⟨1, 2⟩, ⟨3, 4⟩, ⟨5, 6⟩, ⟨7, 8⟩, ⟨9, 10⟩, ⟨11, 12⟩]
theorem eqS (k : Nat) (a : Int) (L : List S101) (h : laws_eqHoldS.f k L L = some true) : laws_eqStock.f k a L a L = some true := by
  unfold laws_eqStock.f
  rw [if_pos rfl, h]; rfl
theorem FnExactStockNew : laws_FnExactStockNew.Pure := by
  intro a0 _
  refine ⟨32, ?_⟩
  by_cases h : 0 ≤ a0 ∧ a0 ≤ 9
  · have es : spec_StockNew.f a0 = some (a0, six, true) := by
      unfold spec_StockNew.f
      simp only [in_spec, h, and_self, decide_true, Option.bind_some, if_true]
      rw [if_pos (by omega)]; rfl
    have ei : impl_StockNew.f a0 = some (a0, six, true) := by
      unfold impl_StockNew.f
      simp only [in_impl, h, and_self, decide_true, Option.bind_some, if_true]
      rw [if_pos (by omega)]; rfl
    have h1 := eqS 32 a0 six (by decide +kernel)
    have h2 := eqS 31 a0 six (by decide +kernel)
    have hm : laws_markStock.f 31 a0 six 1 = some (13, sixM) := by
      have : laws_markHoldS.f 31 six 1 = some (13, sixM) := by kernel_rfl
      unfold laws_markStock.f; rw [this]; rfl
    have hh : laws_heldStock.f 31 a0 sixM 1 = some 13 := by
      have : laws_heldHoldS.f 31 sixM 1 = some 13 := by decide +kernel
      unfold laws_heldStock.f; rw [this]; rfl
    have hh' : laws_heldStock.f 30 a0 sixM 1 = some 13 := by
      have : laws_heldHoldS.f 30 sixM 1 = some 13 := by decide +kernel
      unfold laws_heldStock.f; rw [this]; rfl
    unfold laws_FnExactStockNew.f
    simp only [es, ei, Option.bind_some, h1, if_true]
    simp only [laws_FnExactStockNew.j0, hm, Option.bind_some, hh, ei, h2, bne_self_eq_false, if_true]
    simp [laws_FnExactStockNew.j1, hh']
  · have es : spec_StockNew.f a0 = some (0, [], false) := by
      unfold spec_StockNew.f
      simp only [in_spec, h, decide_false, Option.bind_some]
      rfl
    have ei : impl_StockNew.f a0 = some (0, [], false) := by
      unfold impl_StockNew.f
      simp only [in_impl, h, decide_false, Option.bind_some]
      rfl
    have h1 := eqS 32 0 [] (by decide +kernel)
    have h2 := eqS 31 0 [] (by decide +kernel)
    have hm : laws_markStock.f 31 0 [] 1 = some (1, []) := by rfl
    have hh : laws_heldStock.f 31 0 [] 1 = some 1 := by rfl
    have hh' : laws_heldStock.f 30 0 [] 1 = some 1 := by rfl
    unfold laws_FnExactStockNew.f
    simp only [es, ei, Option.bind_some, h1, if_true]
    simp only [laws_FnExactStockNew.j0, hm, Option.bind_some, hh, ei, h2, bne_self_eq_false, if_true]
    simp [laws_FnExactStockNew.j1, hh']

end Go.Proofs.Ytkbjgmfghhgodaa.Pure
