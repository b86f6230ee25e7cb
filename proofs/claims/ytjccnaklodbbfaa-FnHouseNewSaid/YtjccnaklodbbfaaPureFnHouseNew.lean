/- A new house is well, own, and has all free: of every code the law is true. Proved: the law's one pure statement. No condition. -/
import Derived.Test.YtjccnaklodbbfaaPureHouseNew
import Derived.Test.YtjccnaklodbbfaaPureStockOf
import Derived.Test.YtjccnaklodbbfaaPureLog
import Derived.Test.YtjccnaklodbbfaaPurePick
import Derived.Test.YtjccnaklodbbfaaZq6
namespace Go.Proofs.Ytjccnaklodbbfaa.Pure
open Go.RowKit Go.Proofs.Ytjccnaklodbbfaa.Print Go.Proofs.YtjccnaklodbbfaaW.PrintWords Go.Proofs.YtjccnaklodbbfaaW.PrintLast

theorem drawHouseNew_ex (k : Nat) (l : List Int) (h : ∀ x ∈ l, (Lit.int .u8 x).wf = true) (hk : 1 ≤ k) : Ex (spec_DrawHouseNew.f k l) (fun _ => True) := by
  unfold spec_DrawHouseNew.f
  refine Ex.bind (open_ex l h) (fun r hr => ?_)
  refine Ex.bind (pick_ex _ r.1 hr.1 _ _ (by omega) (by omega) (by omega) (by omega) (by omega)) (fun t ht => ?_)
  exact Ex.bind (pick_ex _ r.1 hr.1 _ _ (by omega) (by omega) (by omega) (by omega) (by omega)) (fun u hu => Ex.ret trivial)
theorem lnHouse_nil (k : Nat) (hk : 1 ≤ k) (h : Int) (b : Bool) (w f : Int) : laws_lnHouse.f k h b w [] f h b w [] f = some true := by
  obtain ⟨k, rfl⟩ := ok_fuel (show 0 < k by omega)
  unfold laws_lnHouse.f laws_lnLog.f laws_lnRecs.f
  rw [if_pos rfl]
  simp [laws_lnRecs.l0]
theorem FnHouseNew : laws_FnHouseNew.Pure := by
  intro l0 _ _ h0
  refine ⟨80, Ex.some_ ?_⟩
  unfold laws_FnHouseNew.f
  refine Ex.ite (fun _ => Ex.ret rfl) (fun _ => Ex.bind (drawHouseNew_ex 80 l0 h0 (by omega)) (fun r _ => ?_))
  obtain ⟨h, w⟩ := r
  dsimp only
  rw [houseNew_spec, houseNew_impl]
  simp only [Option.bind_some]
  unfold houseNewV
  by_cases g : (1 ≤ h ∧ h ≤ 3) ∧ (0 ≤ w ∧ w ≤ 9)
  · rw [if_pos g]
    simp only [bne_self_eq_false]
    rw [if_neg (by simp), lnHouse_nil 80 (by omega)]
    simp only [Option.bind_some, if_true, laws_FnHouseNew.j0, Bool.not_true]
    have e : stockOfV w [] = (w, six, true) := by unfold stockOfV; rw [if_pos g.2]; rfl
    have hlog : logB [] 0 = true := by decide
    have hok : impl_HouseOk.f 79 h true w [] 0 = some true := by
      unfold impl_HouseOk.f impl_isHouse.f
      rw [in_impl, logOk_impl, hlog, stockOf_impl w [] (by simp) 79 (by simp), e]
      simp [g.1]
    have hst : impl_HouseStock.f 79 h true w [] 0 false = some (w, six) := by
      unfold impl_HouseStock.f
      rw [hok]
      unfold impl_House_stock.f impl_Log_known.f
      simp only [Option.bind_some, if_true]
      rw [if_neg (by simp), Option.bind_some, stockOf_impl w [] (by simp) 79 (by simp), e]
      rfl
    have h6 : six.length = 6 := by decide
    have hfree : freeV w six = w := by simp [six, freeV, List.replicate, z46]
    rw [if_neg (by simp), hok, hst]
    unfold impl_StockFree.f
    simp only [Option.bind_some, if_true]
    rw [stockOk_impl w six 79 (by omega), six_well g.2, free_impl six w (by omega) 79 (by omega), hfree]
    exact ⟨true, by simp, rfl⟩
  · rw [if_neg g]
    simp only [bne_self_eq_false]
    rw [if_neg (by simp), lnHouse_nil 80 (by omega)]
    simp only [Option.bind_some, if_true, laws_FnHouseNew.j0, Bool.not_false]
    rw [if_pos (by rfl), lnHouse_nil 79 (by omega)]
    exact ⟨true, rfl, rfl⟩

end Go.Proofs.Ytjccnaklodbbfaa.Pure
