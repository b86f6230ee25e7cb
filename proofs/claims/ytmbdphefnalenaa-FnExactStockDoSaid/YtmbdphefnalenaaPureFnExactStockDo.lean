/- The program's StockDo returns what the reference's returns, for all arguments; what it returns is its own: the law's one pure statement. No condition. -/
import Derived.Test.YtmbdphefnalenaaPureMarks
import Derived.Test.YtmbdphefnalenaaPureMarkInts
import Derived.Test.YtmbdphefnalenaaPureStockDoSpec
import Derived.Test.YtmbdphefnalenaaPstFnExactStockDo
namespace Go.Proofs.Ytmbdphefnalenaa.Pure
open Go.RowKit Go.Proofs.Ytmbdphefnalenaa.Print Go.Proofs.YtmbdphefnalenaaW.PrintWords Go.Proofs.YtmbdphefnalenaaW.PrintLast

theorem toRec_eq (c t : Int) (m : List Int) (hl : m.length ≤ 1048576) (k : Nat) (hk : m.length < k) : laws_toRec.f k c t m = some (c, t, m) := by
  unfold laws_toRec.f
  rw [toIntS_eq m hl k hk]; rfl
theorem eqRec_refl (c t : Int) (m : List Int) (hl : m.length ≤ 1048576) (k : Nat) (hk : m.length < k) : laws_eqRec.f k c t m c t m = some true := by
  unfold laws_eqRec.f
  rw [if_pos rfl, if_pos rfl, eqIntS_eq m m hl k hk]
  simp
theorem stockDo_len (a : Int) (l : List S49) (c t : Int) (m : List Int) : (stockDoV a l c t m).2.1.length ≤ l.length := by
  unfold stockDoV doV
  split
  · simp
  · simp
theorem exactDo_j1 (k : Nat) (hk : 7000000 ≤ k) (a : Int) (l : List S116) (c t : Int) (m : List Int) (hl : l.length ≤ 1048576) (hm : m.length ≤ 1048576) :
    Ex (laws_FnExactStockDo.j1 k (stockDoV a (l.map cvH) c t m).2.2 false a l c t m (stockDoV a (l.map cvH) c t m).1 (stockDoV a (l.map cvH) c t m).2.1 (stockDoV a (l.map cvH) c t m).1 (stockDoV a (l.map cvH) c t m).2.1) (fun r => r = true) := by
  have hn : (l.map cvH).length = l.length := by rw [List.length_map]
  have hd := stockDo_len a (l.map cvH) c t m
  obtain ⟨k, rfl⟩ := ok_fuel (show 0 < k by omega)
  rw [laws_FnExactStockDo.j1, if_neg (by simp)]
  refine Ex.bind (markStock_ex _ _ 1 (by omega) (by omega) k (by omega)) (fun r hr => ?_)
  obtain ⟨h1, h2, h3⟩ := hr
  rw [heldStock_eq _ r.2 1 (by omega) (by omega) h3 k (by omega), h2, ← h1]
  refine Ex.bindS ?_
  rw [if_neg (by omega), if_pos rfl, toStock_eq a l hl k (by omega), toRec_eq c t m hm k (by omega)]
  refine Ex.bindS (Ex.bindS ?_)
  dsimp only
  rw [stockDo_impl _ _ _ _ _ k (by omega), Option.bind_some, eqStock_refl _ _ (by omega) k (by omega), Option.bind_some, if_pos rfl]
  obtain ⟨k, rfl⟩ := ok_fuel (show 0 < k by omega)
  rw [laws_FnExactStockDo.j2, if_neg (by simp), heldStock_eq _ r.2 1 (by omega) (by omega) h3 k (by omega), h2, ← h1, Option.bind_some, if_neg (by omega), if_pos rfl]
  exact ⟨true, rfl, rfl⟩
theorem exactDo_j0 (k : Nat) (hk : 7000001 ≤ k) (a : Int) (l : List S116) (c t : Int) (m : List Int) (hl : l.length ≤ 1048576) (hm : m.length ≤ 1048576) (x : Bool) (hx : x = false) :
    Ex (laws_FnExactStockDo.j0 k (stockDoV a (l.map cvH) c t m).2.2 (stockDoV a (l.map cvH) c t m).2.2 x a l c t m (stockDoV a (l.map cvH) c t m).1 (stockDoV a (l.map cvH) c t m).2.1 a (l.map cvH) c t m (stockDoV a (l.map cvH) c t m).1 (stockDoV a (l.map cvH) c t m).2.1) (fun r => r = true) := by
  have hn : (l.map cvH).length = l.length := by rw [List.length_map]
  have hd := stockDo_len a (l.map cvH) c t m
  obtain ⟨k, rfl⟩ := ok_fuel (show 0 < k by omega)
  subst hx
  rw [laws_FnExactStockDo.j0, if_neg (by simp), toStock_eq a l hl k (by omega)]
  refine Ex.bindS ?_
  dsimp only
  rw [eqStock_refl _ _ (by omega) k (by omega), Option.bind_some, if_pos rfl, toRec_eq c t m hm k (by omega)]
  refine Ex.bindS ?_
  dsimp only
  rw [eqRec_refl c t m hm k (by omega), Option.bind_some, if_pos rfl]
  refine Ex.bind (markStock_ex _ _ 1 (by omega) (by omega) k (by omega)) (fun r hr => ?_)
  unfold laws_markRec.f
  refine Ex.bind (P := fun q : Int × List Int => 0 ≤ q.1) (Ex.bind (markIntS_ex m r.1 hm (by omega) (by omega) k (by omega)) (fun q hq => Ex.ret (by dsimp only; omega))) (fun q hq => ?_)
  rw [if_neg (by omega), eqStock_refl _ _ (by omega) k (by omega), Option.bind_some, if_pos rfl, bne_self_eq_false]
  exact exactDo_j1 k (by omega) a l c t m hl hm
theorem FnExactStockDo : laws_FnExactStockDo.Pure := by
  intro a l c t m _ hl _ _ hm
  refine ⟨8000000, Ex.some_ ?_⟩
  generalize hk : 8000000 = k
  unfold laws_FnExactStockDo.f laws_szRec.f
  rw [szStock_eq a l _ (by omega) (by omega) hl.1]
  refine Ex.bindS (Ex.ite (fun _ => Ex.ret rfl) (fun h => ?_))
  have h1 : ¬ (1048576 : Int) < l.length := fun h2 => by rw [if_pos h2] at h; omega
  rw [if_neg h1, szIntS_eq m _ (by omega) (by omega) hm.1]
  by_cases h2 : (1048576 : Int) - l.length < m.length
  · rw [if_pos h2]; exact ⟨true, rfl, rfl⟩
  · rw [if_neg h2, Option.bind_some, if_neg (by omega), Option.bind_some, if_neg (by omega)]
    have hn : (l.map cvH).length = l.length := by rw [List.length_map]
    have hd := stockDo_len a (l.map cvH) c t m
    rw [toStock_eq a l (by omega) k (by omega), toRec_eq c t m (by omega) k (by omega)]
    simp only [Option.bind_some]
    rw [stockDo_spec a _ c t m (by omega) (by omega) k (by omega), stockDo_impl a _ c t m k (by omega)]
    simp only [Option.bind_some]
    rw [eqStock_refl _ _ (by omega) k (by omega), Option.bind_some, if_pos rfl]
    exact exactDo_j0 k (by omega) a l c t m (by omega) (by omega) _ (bne_self_eq_false _)

end Go.Proofs.Ytmbdphefnalenaa.Pure
