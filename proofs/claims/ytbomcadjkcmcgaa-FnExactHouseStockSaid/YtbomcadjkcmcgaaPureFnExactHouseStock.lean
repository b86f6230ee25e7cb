/- The program's HouseStock returns what the reference's returns, for all arguments; what it returns is its own: the law's one pure statement. No condition. -/
import Derived.Test.YtbomcadjkcmcgaaPureLogs
import Derived.Test.YtbomcadjkcmcgaaPureLogSpec
import Derived.Test.YtbomcadjkcmcgaaPureStockOf
import Derived.Test.YtbomcadjkcmcgaaPureMarks
import Derived.Test.YtbomcadjkcmcgaaPureMarkInts
import Derived.Test.YtbomcadjkcmcgaaPstFnExactHouseStock
import Derived.Test.YtbomcadjkcmcgaaZc2
import Derived.Test.YtbomcadjkcmcgaaZc1
import Derived.Test.YtbomcadjkcmcgaaZc3
namespace Go.Proofs.Ytbomcadjkcmcgaa.Pure
open Go.RowKit Go.Proofs.Ytbomcadjkcmcgaa.Print Go.Proofs.YtbomcadjkcmcgaaW.PrintWords Go.Proofs.YtbomcadjkcmcgaaW.PrintLast

def houseB (h w : Int) (l : List S62) (f : Int) : Bool := decide (1 ≤ h ∧ h ≤ 3) && logB l f && (stockOfV w l).2.2
def knownV (l : List S62) (f : Int) (b : Bool) : List S62 := if b = true then l.take f.toNat else l
def houseStockV (h w : Int) (l : List S62) (f : Int) (b : Bool) : Int × List S72 := if houseB h w l f = true then ((stockOfV w (knownV l f b)).1, (stockOfV w (knownV l f b)).2.1) else (0, [])
theorem stockOf_len (w : Int) (rs : List S62) : (stockOfV w rs).2.1.length ≤ 6 := by
  by_cases h : (stockOfV w rs).2.2 = true
  · have := (stock_parts (stockOf_well h).2.2).2.1; omega
  · rw [stockOf_fail (by simpa using h)]; simp
theorem houseStock_len (h w : Int) (l : List S62) (f : Int) (b : Bool) : (houseStockV h w l f b).2.length ≤ 6 := by
  unfold houseStockV
  split
  · exact stockOf_len _ _
  · simp
theorem log_forced {l : List S62} {f : Int} (h : logB l f = true) : 0 ≤ f ∧ f ≤ l.length := by
  unfold logB at h
  simp only [Bool.and_eq_true, decide_eq_true_eq] at h
  omega
theorem house_parts {h w : Int} {l : List S62} {f : Int} (g : houseB h w l f = true) : 0 ≤ f ∧ f ≤ l.length := by
  unfold houseB at g
  simp only [Bool.and_eq_true] at g
  exact log_forced g.1.2
theorem known_len (l : List S62) (f : Int) (b : Bool) : (knownV l f b).length ≤ l.length := by
  unfold knownV
  split
  · rw [List.length_take]; omega
  · omega
theorem houseStock_impl (h : Int) (u : Bool) (w : Int) (l : List S62) (f : Int) (b : Bool) (hm : l.length ≤ 1048576) (k : Nat) (hk : 1048600 < k) : impl_HouseStock.f k h u w l f b = some (houseStockV h w l f b) := by
  have him : impl_HouseOk.f k h u w l f = some (houseB h w l f) := by
    unfold impl_HouseOk.f impl_isHouse.f houseB
    rw [in_impl, logOk_impl, stockOf_impl w _ hm k (by omega)]
    simp only [Option.bind_some]
    by_cases g : 1 ≤ h ∧ h ≤ 3
    · cases logB l f <;> simp [g]
    · simp [g]
  unfold impl_HouseStock.f houseStockV
  rw [him, Option.bind_some]
  by_cases g : houseB h w l f = true
  · obtain ⟨p1, p2⟩ := house_parts g
    rw [if_pos g, if_pos g]
    unfold impl_House_stock.f impl_Log_known.f
    have hk2 := known_len l f b
    have e : (if b = true then (if 0 ≤ f then (if f ≤ (l.length : Int) then (some (l.take f.toNat)) else none) else none) else some l) = some (knownV l f b) := by
      unfold knownV
      by_cases hb : b = true
      · rw [if_pos hb, if_pos hb, if_pos p1, if_pos p2]
      · rw [if_neg hb, if_neg hb]
    rw [e, Option.bind_some, stockOf_impl w _ (by omega) k (by omega)]
    rfl
  · rw [if_neg g, if_neg g]
theorem houseStock_spec (h : Int) (u : Bool) (w : Int) (l : List S62) (f : Int) (b : Bool) (hm : l.length ≤ 1048576) (hM : ∀ x ∈ l, x.f2.length ≤ 1048576) (k : Nat) (hk : 4194400 < k) : spec_HouseStock.f k h u w l f b = some (houseStockV h w l f b) := by
  have hsp : spec_HouseOk.f k h u w l f = some (houseB h w l f) := by
    unfold spec_HouseOk.f houseB
    rw [l2Of_eq w _ hm 1048576 hM (by omega) k (by omega), logOk_spec _ f hm 1048576 hM (by omega) k (by omega), in_spec]
    simp only [Option.bind_some]
    by_cases g : 1 ≤ h ∧ h ≤ 3
    · cases logB l f <;> simp [g]
    · simp [g]
  unfold spec_HouseStock.f houseStockV
  rw [hsp, Option.bind_some]
  by_cases g : houseB h w l f = true
  · obtain ⟨p1, p2⟩ := house_parts g
    rw [if_pos g, if_pos g]
    unfold spec_l11Stock.f
    by_cases hb : b = true
    · have ek : knownV l f b = l.take f.toNat := by unfold knownV; rw [if_pos hb]
      rw [ek, if_pos hb, if_pos p1, if_pos p2, l2Of_eq w _ (by rw [List.length_take]; omega) 1048576 (fun x hx => hM x (List.mem_of_mem_take hx)) (by omega) k (by rw [List.length_take]; omega)]
      rfl
    · have ek : knownV l f b = l := by unfold knownV; rw [if_neg hb]
      rw [ek, if_neg hb, if_pos (by omega), if_pos (by omega), Int.toNat_natCast, List.take_length, l2Of_eq w _ hm 1048576 hM (by omega) k (by omega)]
      rfl
  · rw [if_neg g, if_neg g]
theorem toHouse_eq (h : Int) (u : Bool) (w : Int) (l : List S75) (f : Int) (hl : l.length ≤ 1048576) (hM : ∀ x ∈ l, x.f2.length ≤ 1048576) (k : Nat) (hk : 2097154 < k) : laws_toHouse.f k h u w l f = some (h, u, w, l.map cvR, f) := by
  unfold laws_toHouse.f
  rw [toLog_eq l f hl hM k hk]; rfl
theorem eqHouse_refl (h : Int) (u : Bool) (w : Int) (l : List S62) (f : Int) (hl : l.length ≤ 1048576) (hM : ∀ x ∈ l, x.f2.length ≤ 1048576) (k : Nat) (hk : 2097154 < k) : laws_eqHouse.f k h u w l f h u w l f = some true := by
  unfold laws_eqHouse.f
  rw [if_pos rfl, if_neg (by simp), if_pos rfl, eqLog_refl l f hl hM k hk]
  rfl
theorem markRecS_go (k : Nat) (hk : 1048577 < k) : ∀ (l : List S62) (x : Int), (∀ y ∈ l, y.f2.length ≤ 1048576) → 0 ≤ x → x + 1048578 * l.length ≤ 100000000000000 → Ex (laws_markRecS.go k l x) (fun r => 0 ≤ r)
  | [], x, _, h0, _ => Ex.ret h0
  | y :: ys, x, hM, h0, hb => by
    simp only [laws_markRecS.go]
    simp only [List.length_cons] at hb
    have hy := hM y (List.mem_cons_self ..)
    have e : wrap64 (wrap64 (x + 1) + 1) = x + 2 := by rw [w64 (n := x + 1) (by omega) (by omega), w64 (by omega) (by omega)]; omega
    rw [e]
    exact Ex.bind (markIntS_ex y.f2 (x + 2) hy (by omega) (by omega) k (by omega)) (fun r hr => markRecS_go k hk ys r.1 (fun z hz => hM z (List.mem_cons_of_mem _ hz)) (by omega) (by omega))
theorem exactHS_j0 (k : Nat) (hk : 7000000 ≤ k) (h : Int) (u : Bool) (w : Int) (l : List S75) (f : Int) (b : Bool) (hl : l.length ≤ 1048576) (hM : ∀ x ∈ l, x.f2.length ≤ 1048576) (s : Int × List S72) (hs : s = houseStockV h w (l.map cvR) f b) :
    Ex (laws_FnExactHouseStock.j0 k b false h u w l f s.1 s.2 s.1 s.2) (fun r => r = true) := by
  have hn : (l.map cvR).length = l.length := by rw [List.length_map]
  have hd : s.2.length ≤ 6 := by rw [hs]; exact houseStock_len _ _ _ _ _
  obtain ⟨k, rfl⟩ := ok_fuel (show 0 < k by omega)
  rw [laws_FnExactHouseStock.j0, if_neg (by simp)]
  refine Ex.bind (markStock_ex _ _ 1 (by omega) (by omega) k (by omega)) (fun r hr => ?_)
  obtain ⟨h1, h2, h3⟩ := hr
  rw [heldStock_eq _ r.2 1 (by omega) (by omega) h3 k (by omega), h2, ← h1]
  refine Ex.bindS ?_
  rw [if_neg (by omega), if_pos rfl, toHouse_eq h u w l f hl hM k (by omega)]
  refine Ex.bindS ?_
  dsimp only
  rw [houseStock_impl _ _ _ _ _ _ (by omega) k (by omega), ← hs, Option.bind_some, eqStock_refl _ _ (by omega) k (by omega), Option.bind_some, if_pos rfl]
  refine Ex.bindS ?_
  rw [if_neg (by omega), if_pos rfl]
  exact ⟨true, rfl, rfl⟩
theorem FnExactHouseStock : laws_FnExactHouseStock.Pure := by
  intro h u w l f b _ _ _ hl _ _
  refine ⟨8000000, Ex.some_ ?_⟩
  generalize hk : 8000000 = k
  unfold laws_FnExactHouseStock.f laws_szHouse.f
  refine Ex.bind (P := fun r : Int => 0 ≤ r → l.length ≤ 1048576 ∧ ∀ x ∈ l, x.f2.length ≤ 1048576) (Ex.bind (szLog_ex l f hl.1 (fun x hx => (hl.2 x hx).2.2.1) k (by omega)) (fun r hr => Ex.ite (fun _ => Ex.ret (fun h => by omega)) (fun _ => Ex.ret hr))) (fun r hr => ?_)
  refine Ex.ite (fun _ => Ex.ret rfl) (fun h0 => ?_)
  obtain ⟨h1, h2⟩ := hr (by omega)
  have hn : (l.map cvR).length = l.length := by rw [List.length_map]
  have hM2 : ∀ x ∈ l.map cvR, x.f2.length ≤ 1048576 := by
    intro x hx
    obtain ⟨y, hy, rfl⟩ := List.mem_map.mp hx
    exact h2 y hy
  rw [toHouse_eq h u w l f h1 h2 k (by omega)]
  simp only [Option.bind_some]
  rw [houseStock_spec h u w _ f b (by omega) hM2 k (by omega), houseStock_impl h u w _ f b (by omega) k (by omega)]
  have hd := houseStock_len h w (l.map cvR) f b
  simp only [Option.bind_some]
  rw [eqStock_refl _ _ (by omega) k (by omega), Option.bind_some, if_pos rfl, eqHouse_refl h u w _ f (by omega) hM2 k (by omega), Option.bind_some, if_pos rfl]
  unfold laws_markHouse.f laws_markLog.f laws_markRecS.f
  refine Ex.bind (markRecS_go k (by omega) (l.map cvR) 1 hM2 (by omega) (by omega)) (fun q hq => ?_)
  rw [if_neg (by omega), Option.bind_some]
  exact exactHS_j0 k (by omega) h u w l f b h1 h2 _ rfl

end Go.Proofs.Ytbomcadjkcmcgaa.Pure
