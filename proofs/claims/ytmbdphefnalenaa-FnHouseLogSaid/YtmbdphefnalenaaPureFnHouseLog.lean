/- What a house writes down makes a stock: of every code the law is true. Proved: the law's one pure statement. No condition. -/
import Derived.Test.YtmbdphefnalenaaPureDrawStock
import Derived.Test.YtmbdphefnalenaaPureDrawRec
import Derived.Test.YtmbdphefnalenaaPureLogSpec
import Derived.Test.YtmbdphefnalenaaZo3
namespace Go.Proofs.Ytmbdphefnalenaa.Pure
open Go.RowKit Go.Proofs.Ytmbdphefnalenaa.Print Go.Proofs.YtmbdphefnalenaaW.PrintWords Go.Proofs.YtmbdphefnalenaaW.PrintLast Go.Proofs.YtmbdphefnalenaaW.PrintMore

def HouseDrawn (r : Int × Bool × Int × List S32 × Int) : Prop := r.2.2.2.1.length ≤ 20 ∧ ∀ x ∈ r.2.2.2.1, x.f2.length ≤ 4
theorem drawHouse_j0 (k : Nat) (hk : 60 ≤ k) (b : List Int) (hb : Code b) (p : Int) (hp : 0 ≤ p) (hp2 : p ≤ 50000) (h : Int) (o : Bool) (w : Int) (rs : List S32) (f : Int) (hl : rs.length ≤ 19) (hs : ∀ x ∈ rs, x.f2.length ≤ 4) :
    Ex (spec_l71House.j0 k b p h o w rs f) (fun r => r.2.2.2.1.length ≤ 20 ∧ ∀ x ∈ r.2.2.2.1, x.f2.length ≤ 4) := by
  obtain ⟨k, rfl⟩ := ok_fuel (show 0 < k by omega)
  simp only [spec_l71House.j0]
  refine Ex.bind (pick_ex _ b hb _ _ (by omega) (by omega) (by omega) (by omega) (by omega)) (fun r1 h1 => ?_)
  have hl2 : rs.length ≤ 20 := by omega
  refine Ex.ite (fun _ => Ex.bindS (Ex.bind (pick_ex _ b hb _ _ (by omega) (by omega) (by omega) (by omega) (by omega)) (fun r2 h2 => Ex.ite (fun _ => Ex.ite (fun _ => Ex.ret ⟨hl2, hs⟩) (fun g => by simp at g; omega)) (fun g => by omega)))) (fun _ => Ex.ite (fun _ => ?_) (fun _ => Ex.ite (fun _ => Ex.bind (pick_ex _ b hb _ _ (by omega) (by omega) (by omega) (by omega) (by omega)) (fun r2 h2 => Ex.ret ⟨hl2, hs⟩)) (fun _ => Ex.ret ⟨hl2, hs⟩)))
  refine Ex.bind (l71RecV_ex k b hb _ (by omega) (by omega) (by omega)) (fun q hq => Ex.ite (fun _ => Ex.ret ⟨by simp only [List.length_append, List.length_singleton]; omega, fun x hx => ?_⟩) (fun g => by omega))
  rcases List.mem_append.mp hx with g | g
  · exact hs x g
  · simp at g; subst g; exact hq.1
theorem drawHouseOk_ex (k : Nat) (l : List Int) (h : ∀ x ∈ l, (Lit.int .u8 x).wf = true) (hk : 100 ≤ k) : Ex (spec_DrawHouseOk.f k l) HouseDrawn := by
  unfold spec_DrawHouseOk.f
  refine Ex.bind (open_ex l h) (fun r hr => ?_)
  refine Ex.bind (P := fun r : Int × Bool × Int × List S32 × Int × Int => r.2.2.2.1.length ≤ 20 ∧ ∀ x ∈ r.2.2.2.1, x.f2.length ≤ 4) ?_ (fun q hq => Ex.ret hq)
  unfold spec_l71House.f
  refine Ex.bind (l71Recs_ex k r.1 hr.1 _ (by omega) (by omega) (by omega)) (fun s hs => ?_)
  obtain ⟨h1, h2, ⟨l', hf, _⟩, h3, h4⟩ := hs
  have hsm : ∀ x ∈ s.2.1, x.f2.length ≤ 4 := fun x hx => by have := (hf.2 x hx).1; omega
  refine Ex.bind (pick_ex _ r.1 hr.1 _ _ (by omega) (by omega) (by omega) (by omega) (by omega)) (fun t1 ht1 => ?_)
  refine Ex.bind (pick_ex _ r.1 hr.1 _ _ (by omega) (by omega) (by omega) (by omega) (by omega)) (fun t2 ht2 => ?_)
  refine Ex.bind (pick_ex _ r.1 hr.1 _ _ (by omega) (by omega) (by omega) (by omega) (by omega)) (fun t3 ht3 => ?_)
  refine Ex.ite (fun _ => ?_) (fun _ => drawHouse_j0 k (by omega) r.1 hr.1 _ (by omega) (by omega) _ _ _ _ _ (by omega) hsm)
  rw [w64 (by omega) (by omega)]
  exact Ex.bind (pick_ex _ r.1 hr.1 _ _ (by omega) (by omega) (by omega) (by omega) (by omega)) (fun t4 ht4 => drawHouse_j0 k (by omega) r.1 hr.1 _ (by omega) (by omega) _ _ _ _ _ (by omega) hsm)
def houseB (h w : Int) (l : List S32) (f : Int) : Bool := decide (1 ≤ h ∧ h ≤ 3) && logB l f && (stockOfV w l).2.2
theorem houseOk_impl (h : Int) (o : Bool) (w : Int) (l : List S32) (f : Int) (hl : l.length ≤ 1000) (k : Nat) (hk : l.length + 10 < k) : impl_HouseOk.f k h o w l f = some (houseB h w l f) := by
  unfold impl_HouseOk.f impl_isHouse.f houseB
  rw [in_impl, logOk_impl, stockOf_impl w l (by omega) k (by omega)]
  simp only [Option.bind_some]
  by_cases g : 1 ≤ h ∧ h ≤ 3
  · cases logB l f <;> simp [g]
  · simp [g]
theorem houseOk_spec (h : Int) (o : Bool) (w : Int) (l : List S32) (f : Int) (hl : l.length ≤ 1000) (hs : ∀ x ∈ l, x.f2.length ≤ 4) (k : Nat) (hk : l.length + 20 < k) : spec_HouseOk.f k h o w l f = some (houseB h w l f) := by
  unfold spec_HouseOk.f houseB
  rw [l2Of_eq w l (by omega) 4 hs (by omega) k (by omega), logOk_spec l f (by omega) 4 hs (by omega) k (by omega), in_spec]
  simp only [Option.bind_some]
  by_cases g : 1 ≤ h ∧ h ≤ 3
  · cases logB l f <;> simp [g]
  · simp [g]
theorem ofV_take (a : Int) : ∀ (n : Nat) (rs : List S32) (l : List S49), (ofV a l rs).2.2 = true → (ofV a l (rs.take n)).2.2 = true := by
  intro n
  induction n with
  | zero => intro rs l _; rfl
  | succ n ih =>
    intro rs l h
    cases rs with
    | nil => rfl
    | cons r rs =>
      rw [List.take_succ_cons]
      simp only [ofV] at h ⊢
      by_cases g : (recB r.f0 r.f1 r.f2 && mayV a l r.f0 r.f1 r.f2) = true
      · rw [if_pos g] at h ⊢; exact ih rs _ h
      · rw [if_neg g] at h; cases h
theorem houseLog_j1 (k : Nat) (hk : 100 ≤ k) (m : List Int) (h : Int) (o : Bool) (w : Int) (l : List S32) (f : Int) (hl : l.length ≤ 20) (hs : ∀ x ∈ l, x.f2.length ≤ 4) : Ex (laws_FnHouseLog.j1 (k + 1) m (houseB h w l f) (!houseB h w l f) h o w l f) (fun r => r = true) := by
  rw [laws_FnHouseLog.j1, houseOk_spec h o w l f (by omega) hs k (by omega), Option.bind_some]
  refine Ex.ite (fun _ => Ex.ret (by simp)) (fun hn => ?_)
  have hB : houseB h w l f = true := by simpa using hn
  have hB' := hB
  unfold houseB at hB'
  simp only [Bool.and_eq_true, decide_eq_true_eq] at hB'
  obtain ⟨⟨hh, hlog⟩, hok⟩ := hB'
  obtain ⟨g1, g2, g3⟩ := stockOf_well hok
  unfold logB at hlog
  simp only [Bool.and_eq_true, decide_eq_true_eq] at hlog
  obtain ⟨⟨h40, hc⟩, hall⟩ := hlog
  rw [w64 (n := (l.length : Int) + 1) (by omega) (by omega), if_neg (by omega)]
  have e0 : 0 ≤ (m.length : Int) % ((l.length : Int) + 1) := Int.emod_nonneg _ (by omega)
  have e1 : (m.length : Int) % ((l.length : Int) + 1) < (l.length : Int) + 1 := Int.emod_lt_of_pos _ (by omega)
  generalize (m.length : Int) % ((l.length : Int) + 1) = n at e0 e1
  obtain ⟨n, rfl⟩ := Int.eq_ofNat_of_zero_le e0
  have hnl : (l.take n).length = n := by rw [List.length_take]; omega
  rw [if_pos e0, if_pos (by omega), Option.bind_some, Int.toNat_natCast, stockOf_impl w (l.take n) (by omega) k (by omega), Option.bind_some]
  have ht : (stockOfV w (l.take n)).2.2 = true := by
    unfold stockOfV at hok ⊢
    rw [if_pos g1] at hok ⊢
    exact ofV_take w n l six hok
  obtain ⟨k1, k2, k3⟩ := stockOf_well ht
  have hlt : logB (l.take n) (mn n f) = true := by
    unfold logB
    simp only [Bool.and_eq_true, decide_eq_true_eq, hnl]
    refine ⟨⟨by omega, ?_⟩, List.all_eq_true.mpr (fun x hx => List.all_eq_true.mp hall x (List.mem_of_mem_take hx))⟩
    unfold mn
    split <;> omega
  have hB2 : houseB h w (l.take n) (mn n f) = true := by unfold houseB; rw [hlt, ht]; simp [hh]
  rw [if_pos ht, k2, stockOk_impl w _ k (by omega), k3, Option.bind_some, if_pos rfl, houseOk_impl h o w (l.take n) _ (by omega) k (by omega), hB2]
  exact ⟨true, rfl, rfl⟩
theorem FnHouseLog : laws_FnHouseLog.Pure := by
  intro l0 l1 _ _ h0 _ _ _
  obtain ⟨k, hk⟩ : ∃ k : Nat, 200 ≤ k := ⟨200, Nat.le_refl _⟩
  refine ⟨k + 2, Ex.some_ ?_⟩
  have hj : ∀ x : Bool, Ex (laws_FnHouseLog.j0 (k + 2) l0 l1 x) (fun r => r = true) := by
    intro x
    rw [laws_FnHouseLog.j0]
    refine Ex.ite (fun _ => Ex.ret rfl) (fun _ => Ex.bind (drawHouseOk_ex (k + 1) l0 h0 (by omega)) (fun r hr => ?_))
    obtain ⟨h, o, w, l, f⟩ := r
    obtain ⟨hl, hs⟩ := hr
    dsimp only at hl hs
    dsimp only
    rw [houseOk_impl h o w l f (by omega) (k + 1) (by omega), houseOk_spec h o w l f (by omega) hs (k + 1) (by omega), Option.bind_some, Option.bind_some, if_neg (by simp)]
    exact houseLog_j1 k (by omega) l1 h o w l f hl hs
  unfold laws_FnHouseLog.f
  exact Ex.ite (fun _ => hj _) (fun _ => hj _)

end Go.Proofs.Ytmbdphefnalenaa.Pure
