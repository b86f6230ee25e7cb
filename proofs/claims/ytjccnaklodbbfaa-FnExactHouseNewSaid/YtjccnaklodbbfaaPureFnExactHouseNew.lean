/- The program's HouseNew returns what the reference's returns, for all arguments: the law's one pure statement. No condition. -/
import Derived.Test.YtjccnaklodbbfaaPureHouseNew
import Derived.Test.YtjccnaklodbbfaaZf3
namespace Go.Proofs.Ytjccnaklodbbfaa.Pure
open Go.RowKit Go.Proofs.Ytjccnaklodbbfaa.Print Go.Proofs.YtjccnaklodbbfaaW.PrintWords Go.Proofs.YtjccnaklodbbfaaW.PrintLast

theorem eqHouse_nil (k : Nat) (hk : 1 ≤ k) (h : Int) (b : Bool) (w f : Int) : laws_eqHouse.f k h b w [] f h b w [] f = some true := by
  obtain ⟨k, rfl⟩ := ok_fuel (show 0 < k by omega)
  unfold laws_eqHouse.f laws_eqLog.f laws_eqRecS.f
  rw [if_pos rfl]
  simp [laws_eqRecS.l0]
theorem markHouse_nil (h : Int) (b : Bool) (w f : Int) : laws_markHouse.f h b w [] f 1 = some 1 := rfl
theorem heldHouse_nil (k : Nat) (hk : 1 ≤ k) (h : Int) (b : Bool) (w f : Int) : laws_heldHouse.f k h b w [] f 1 = some 1 := by
  obtain ⟨k, rfl⟩ := ok_fuel (show 0 < k by omega)
  unfold laws_heldHouse.f laws_heldLog.f laws_heldRecS.f
  simp [laws_heldRecS.l0]
theorem houseNew_nil (h w : Int) : ∃ a b c d e, houseNewV h w = (a, b, c, [], d, e) := by
  unfold houseNewV
  split
  · exact ⟨_, _, _, _, _, rfl⟩
  · exact ⟨_, _, _, _, _, rfl⟩
theorem FnExactHouseNew : laws_FnExactHouseNew.Pure := by
  intro h w _ _
  refine ⟨10, Ex.some_ ?_⟩
  unfold laws_FnExactHouseNew.f
  rw [houseNew_spec, houseNew_impl]
  obtain ⟨a, b, c, d, e, hv⟩ := houseNew_nil h w
  rw [hv]
  simp only [Option.bind_some]
  rw [eqHouse_nil 10 (by omega)]
  simp only [Option.bind_some, if_true, laws_FnExactHouseNew.j0, bne_self_eq_false]
  rw [if_neg (by simp), markHouse_nil, heldHouse_nil 9 (by omega), houseNew_impl, hv]
  simp only [Option.bind_some]
  rw [if_neg (by omega), if_pos trivial, eqHouse_nil 9 (by omega)]
  simp only [Option.bind_some, if_true, laws_FnExactHouseNew.j1, bne_self_eq_false]
  rw [if_neg (by simp), heldHouse_nil 8 (by omega)]
  exact ⟨true, rfl, rfl⟩

end Go.Proofs.Ytjccnaklodbbfaa.Pure
