/- A beginning of trips is trips, and with a trip that wants nothing, or has no state, they are none: of every code the law is true. Proved: the law's one pure statement. No condition. -/
import Derived.Test.YtjccnaklodbbfaaPureDrawTrips
import Derived.Test.YtjccnaklodbbfaaZy1
namespace Go.Proofs.Ytjccnaklodbbfaa.Pure
open Go.RowKit Go.Proofs.Ytjccnaklodbbfaa.Print Go.Proofs.YtjccnaklodbbfaaW.PrintWords Go.Proofs.YtjccnaklodbbfaaW.PrintLast

theorem drawTripsOk_ex (k : Nat) (l : List Int) (h : ∀ x ∈ l, (Lit.int .u8 x).wf = true) (hk : 4300 ≤ k) : Ex (spec_DrawTripsOk.f k l) (fun r => r.length ≤ 8 ∧ ShortT r) := by
  unfold spec_DrawTripsOk.f
  refine Ex.bind (open_ex l h) (fun r hr => ?_)
  refine Ex.bind (l71TripList_ex k r.1 hr.1 _ (by omega) (by omega) (by omega)) (fun t ht => ?_)
  obtain ⟨g1, g2, g3, g4⟩ := ht
  refine Ex.bind (pick_ex _ r.1 hr.1 _ _ (by omega) (by omega) (by omega) (by omega) (by omega)) (fun r1 h1 => ?_)
  refine Ex.ite (fun _ => ?_) (fun _ => Ex.ret ⟨by omega, g2⟩)
  refine Ex.bind (l71Many_ex k r.1 hr.1 _ (by omega) (by omega) (by omega)) (fun r3 h3 => ?_)
  refine Ex.bind (pick_ex _ r.1 hr.1 _ _ (by omega) (by omega) (by omega) (by omega) (by omega)) (fun r4 h4 => ?_)
  exact Ex.ite (fun _ => Ex.ret ⟨by simp only [List.length_append, List.length_singleton]; omega, shortT_snoc g2 (by omega)⟩) (fun h => by omega)
theorem trips_take {l : List S73} (h : tripsB l = true) (n : Nat) : tripsB (l.take n) = true := by
  obtain ⟨h1, h2⟩ := trips_parts h
  unfold tripsB
  simp only [Bool.and_eq_true, decide_eq_true_eq, List.all_eq_true]
  exact ⟨by rw [List.length_take]; omega, fun x hx => h2 x (List.mem_of_mem_take hx)⟩
theorem trips_bad (l : List S73) (x : S73) (hx : tripB x.f0 x.f1 = false) : tripsB (l ++ [x]) = false := by
  unfold tripsB
  rw [List.all_append]
  simp [hx]
theorem tripsLess_j1 (k : Nat) (hk : 4000 ≤ k) (m : List Int) (x : Bool) (l : List S73) (hl : l.length ≤ 8) (hs : ShortT l) (hx : x = true ∨ (x = false ∧ tripsB l = true ∧ 0 < l.length)) : Ex (laws_FnTripsLess.j1 k m l (tripsB l) x) (fun r => r = true) := by
  obtain ⟨k, rfl⟩ := tfuel (show 0 < k by omega)
  simp only [laws_FnTripsLess.j1]
  rcases hx with hx | ⟨hx, hb, hp⟩
  · rw [if_pos hx, tripsOk_spec l (by omega) 4 hs (by omega) k (by omega)]
    exact ⟨true, by simp, rfl⟩
  · have e0 : 0 ≤ (m.length : Int) % (l.length : Int) := Int.emod_nonneg _ (by omega)
    have e1 : (m.length : Int) % (l.length : Int) < (l.length : Int) := Int.emod_lt_of_pos _ (by omega)
    rw [if_neg (by simp [hx]), if_neg (by omega)]
    generalize (m.length : Int) % (l.length : Int) = n at e0 e1 ⊢
    have ht : (l.take n.toNat).length ≤ l.length := by rw [List.length_take]; omega
    simp only [Option.bind_some, List.length_nil, List.nil_append]
    rw [if_pos e0, if_pos (by omega), if_pos (by omega), if_pos (by omega), if_pos (by omega), if_pos (by omega), tripsOk_impl, trips_take hb, tripsOk_impl, trips_bad _ _ (by decide), tripsOk_impl, trips_bad _ _ (by decide)]
    exact ⟨true, by simp, rfl⟩
theorem FnTripsLess : laws_FnTripsLess.Pure := by
  intro l0 l1 _ _ h0 _ _ _
  refine ⟨5000, Ex.some_ ?_⟩
  generalize hk : 5000 = k
  have hj : ∀ c : Bool, Ex (laws_FnTripsLess.j0 k l0 l1 c) (fun r => r = true) := by
    intro x
    obtain ⟨k, rfl⟩ := tfuel (show 0 < k by omega)
    simp only [laws_FnTripsLess.j0]
    refine Ex.ite (fun _ => Ex.ret rfl) (fun _ => Ex.bind (drawTripsOk_ex k l0 h0 (by omega)) (fun l hr => ?_))
    obtain ⟨hl, hs⟩ := hr
    rw [tripsOk_impl, tripsOk_spec l (by omega) 4 hs (by omega) k (by omega)]
    refine Ex.bindS (Ex.bindS (Ex.ite (fun h => by simp at h) (fun _ => Ex.ite (fun hb => ?_) (fun _ => ?_))))
    · by_cases h0 : l.length = 0
      · exact tripsLess_j1 k (by omega) l1 _ l hl hs (.inl (by simp [h0]))
      · exact tripsLess_j1 k (by omega) l1 _ l hl hs (.inr ⟨by simp; intro h; simp [h] at h0, hb, by omega⟩)
    · exact tripsLess_j1 k (by omega) l1 _ l hl hs (.inl rfl)
  unfold laws_FnTripsLess.f
  exact Ex.ite (fun _ => hj _) (fun _ => hj _)

end Go.Proofs.Ytjccnaklodbbfaa.Pure
