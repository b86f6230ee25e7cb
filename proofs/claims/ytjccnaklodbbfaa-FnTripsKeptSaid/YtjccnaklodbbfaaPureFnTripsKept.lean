/- How a trip ends is how it was decided: of every code the law is true. Proved: the law's one pure statement. No condition. -/
import Derived.Test.YtjccnaklodbbfaaPureDrawTripsOf
import Derived.Test.YtjccnaklodbbfaaPureLnTrips
import Derived.Test.YtjccnaklodbbfaaZeb3
namespace Go.Proofs.Ytjccnaklodbbfaa.Pure
open Go.RowKit Go.Proofs.Ytjccnaklodbbfaa.Print Go.Proofs.YtjccnaklodbbfaaW.PrintWords Go.Proofs.YtjccnaklodbbfaaW.PrintLast

/-- How many records of kind c speak of trip t. -/
def cnt (c t : Int) : List S62 → Nat
  | [] => 0
  | r :: rs => (if r.f0 = c ∧ r.f1 = t then 1 else 0) + cnt c t rs
theorem cnt_append (c t : Int) (ys : List S62) : ∀ xs : List S62, cnt c t (xs ++ ys) = cnt c t xs + cnt c t ys := by
  intro xs
  induction xs with
  | nil => simp [cnt]
  | cons x xs ih => simp only [List.cons_append, cnt, ih]; omega
theorem cnt_le (c t : Int) : ∀ xs : List S62, cnt c t xs ≤ xs.length := by
  intro xs
  induction xs with
  | nil => simp [cnt]
  | cons x xs ih => simp only [cnt, List.length_cons]; split <;> omega
/-- A trip's state, and how many records decided it. -/
def Told (s : Int) (y n e : Nat) : Prop := (s = 1 ∧ y = 0 ∧ n = 0 ∧ e = 0) ∨ (s = 2 ∧ y = 1 ∧ n = 0 ∧ e = 0) ∨ (s = 3 ∧ y = 0 ∧ n = 1 ∧ e = 0) ∨ (s = 4 ∧ y = 1 ∧ n = 0 ∧ e = 1) ∨ (s = 5 ∧ y = 0 ∧ n = 1 ∧ e = 1)
def TellsAll (l : List S73) (rs : List S62) : Prop :=
  (∀ i : Nat, ∀ h : i < l.length, Told l[i].f1 (cnt 5 (i + 1 : Nat) rs) (cnt 6 (i + 1 : Nat) rs) (cnt 7 (i + 1 : Nat) rs)) ∧
  (∀ t : Int, (l.length : Int) < t → cnt 5 t rs = 0 ∧ cnt 6 t rs = 0 ∧ cnt 7 t rs = 0)
theorem told_y {y n e : Nat} (h : Told 1 y n e) : Told 2 (y + 1) (n + 0) (e + 0) := by unfold Told at h ⊢; omega
theorem told_n {y n e : Nat} (h : Told 1 y n e) : Told 3 (y + 0) (n + 1) (e + 0) := by unfold Told at h ⊢; omega
theorem told_e {s : Int} {y n e : Nat} (hs : s = 2 ∨ s = 3) (h : Told s y n e) : Told (s + 2) (y + 0) (n + 0) (e + 1) := by unfold Told at h ⊢; omega
theorem tells_step {l : List S73} {rs : List S62} (h : TellsAll l rs) {r : S62} (hm : mayT l r.f0 r.f1 = true) : TellsAll (doT l r.f0 r.f1 r.f2) (rs ++ [r]) := by
  obtain ⟨h1, h2⟩ := h
  have e1 : ∀ c t, cnt c t (rs ++ [r]) = cnt c t rs + (if r.f0 = c ∧ r.f1 = t then 1 else 0) := fun c t => by rw [cnt_append]; simp [cnt]
  unfold doT
  rcases mayT_cases hm with ⟨e4, et⟩ | ⟨e, e4, g1, g2, g7, g8⟩
  · rw [if_pos e4]
    have z : ∀ c t, (c = 5 ∨ c = 6 ∨ c = 7) → cnt c t (rs ++ [r]) = cnt c t rs := fun c t hc => by rw [e1, if_neg (by omega)]; rfl
    refine ⟨fun i hi => ?_, fun t ht => ?_⟩
    · rw [z 5 _ (by omega), z 6 _ (by omega), z 7 _ (by omega)]
      simp only [List.length_append, List.length_singleton] at hi
      by_cases hil : i < l.length
      · rw [List.getElem_append_left hil]
        exact h1 i hil
      · have := h2 ((i + 1 : Nat) : Int) (by omega)
        have hie : i = l.length := by omega
        subst hie
        rw [List.getElem_append_right (by omega)]
        simp only [Nat.sub_self, List.getElem_cons_zero]
        exact .inl ⟨rfl, this.1, this.2.1, this.2.2⟩
    · simp only [List.length_append, List.length_singleton] at ht
      rw [z 5 _ (by omega), z 6 _ (by omega), z 7 _ (by omega)]
      exact h2 t (by omega)
  · rw [if_neg e4]
    refine ⟨fun i hi => ?_, fun t ht => ?_⟩
    · have hil : i < l.length := by rw [List.length_set] at hi; exact hi
      have hq := h1 i hil
      rw [e1, e1, e1, List.getElem_set]
      by_cases hie : (r.f1 - 1).toNat = i
      · have ht : r.f1 = ((i + 1 : Nat) : Int) := by omega
        have ex : rd_T73 l (r.f1 - 1) = l[i] := by rw [show r.f1 - 1 = (i : Int) by omega]; exact rdT hil
        rw [ex] at g7 g8
        rw [if_pos hie, ex]
        unfold newT
        dsimp only
        rcases e with e | e | e
        · have := g8 (by omega)
          rw [this] at hq
          rw [if_pos e, if_pos ⟨e, ht⟩, if_neg (by omega), if_neg (by omega)]
          exact told_y hq
        · have := g8 (by omega)
          rw [if_neg (show ¬ r.f0 = 5 by omega), if_pos e, if_neg (by omega), if_pos ⟨e, ht⟩, if_neg (by omega)]
          rw [this] at hq
          exact told_n hq
        · have := g7 e
          rw [if_neg (show ¬ r.f0 = 5 by omega), if_neg (show ¬ r.f0 = 6 by omega), if_neg (by omega), if_neg (by omega), if_pos ⟨e, ht⟩]
          exact told_e this hq
      · rw [if_neg hie, if_neg (by omega), if_neg (by omega), if_neg (by omega)]
        exact hq
    · rw [List.length_set] at ht
      rw [e1, e1, e1, if_neg (by omega), if_neg (by omega), if_neg (by omega)]
      exact h2 t ht
theorem tells_of : ∀ (rs pre : List S62) (l : List S73), TellsAll l pre → (ofT l rs).2 = true → TellsAll (ofT l rs).1 (pre ++ rs) := by
  intro rs
  induction rs with
  | nil => intro pre l h _; rw [List.append_nil]; exact h
  | cons r rs ih =>
    intro pre l h hk
    simp only [ofT] at hk ⊢
    by_cases g : (recB r.f0 r.f1 r.f2 && mayT l r.f0 r.f1) = true
    · rw [if_pos g] at hk ⊢
      rw [Bool.and_eq_true] at g
      have := ih (pre ++ [r]) _ (tells_step h g.2) hk
      rw [List.append_assoc] at this
      exact this
    · rw [if_neg g] at hk; cases hk
theorem tells_nil : TellsAll [] [] := ⟨fun i h => by simp at h, fun t _ => ⟨rfl, rfl, rfl⟩⟩
/-- What the counting comes to. -/
theorem tripsKept_l1 (rs : List S62) (hl : rs.length ≤ 1000) (l : List S73) (h6 : l.length ≤ 6) (t : Nat) (ht1 : 1 ≤ t) (ht2 : t ≤ l.length) (ha : TellsAll l rs) (K : Nat)
    (hn : ∀ k', K ≤ k' → Ex (laws_FnTripsKept.l0 k' rs l ((t + 1 : Nat) : Int)) (fun r => r = true)) :
    ∀ (d k i y n e : Nat), i + d = rs.length → d + K + 2 ≤ k → y + cnt 5 t (rs.drop i) = cnt 5 t rs → n + cnt 6 t (rs.drop i) = cnt 6 t rs → e + cnt 7 t (rs.drop i) = cnt 7 t rs → Ex (laws_FnTripsKept.l1 k rs l t y n e i) (fun r => r = true) := by
  intro d
  induction d with
  | zero =>
    intro k i y n e hi hk hy hnn he
    obtain ⟨k, rfl⟩ := tfuel (show 0 < k by omega)
    rw [laws_FnTripsKept.l1, if_neg (by omega)]
    rw [List.drop_eq_nil_of_le (by omega)] at hy hnn he
    simp only [cnt, Nat.add_zero] at hy hnn he
    have hx := ha.1 (t - 1) (by omega)
    rw [show t - 1 + 1 = t by omega, ← hy, ← hnn, ← he] at hx
    have er : rd_T73 l (wrap64 ((t : Int) - 1)) = l[t - 1] := by
      rw [w64 (by omega) (by omega), show (t : Int) - 1 = ((t - 1 : Nat) : Int) by omega]
      exact rdT (by omega)
    have hk2 := hn k (by omega)
    rw [er]
    generalize l[t - 1].f1 = s at hx ⊢
    rw [w64 (n := (t : Int) - 1) (by omega) (by omega), if_pos (by omega), if_pos (by omega), w64 (n := (t : Int) + 1) (by omega) (by omega), ti1]
    unfold Told at hx
    rcases hx with ⟨rfl, rfl, rfl, rfl⟩ | ⟨rfl, rfl, rfl, rfl⟩ | ⟨rfl, rfl, rfl, rfl⟩ | ⟨rfl, rfl, rfl, rfl⟩ | ⟨rfl, rfl, rfl, rfl⟩
    all_goals
      simp only [show ((0 : Nat) : Int) = 0 from rfl, show ((1 : Nat) : Int) = 1 from rfl, show wrap64 (0 + 0) = 0 by unfold wrap64; omega, show wrap64 (1 + 0) = 1 by unfold wrap64; omega, show wrap64 (0 + 1) = 1 by unfold wrap64; omega]
      simpa using hk2
  | succ d ih =>
    intro k i y n e hi hk hy hnn he
    obtain ⟨k, rfl⟩ := tfuel (show 0 < k by omega)
    have hil : i < rs.length := by omega
    have b5 := cnt_le 5 t rs
    have b6 := cnt_le 6 t rs
    have b7 := cnt_le 7 t rs
    have ew : ∀ j : Nat, j ≤ 2000 → wrap64 ((j : Int) + 1) = ((j + 1 : Nat) : Int) := fun j hj => by rw [w64 (by omega) (by omega)]; omega
    rw [laws_FnTripsKept.l1, if_pos (by omega), if_pos (by omega), rdTR hil, ew i (by omega), ew y (by omega), ew n (by omega), ew e (by omega)]
    rw [List.drop_eq_getElem_cons hil] at hy hnn he
    simp only [cnt] at hy hnn he
    generalize rs[i] = x at hy hnn he ⊢
    by_cases ht : x.f1 = (t : Int)
    · rw [if_pos ht]
      by_cases e5 : x.f0 = 5
      · rw [if_pos ⟨e5, ht⟩] at hy
        rw [if_neg (by omega)] at hnn he
        rw [if_pos e5]
        exact ih k (i + 1) _ _ _ (by omega) (by omega) (by omega) (by omega) (by omega)
      · rw [if_neg (by omega)] at hy
        rw [if_neg e5]
        by_cases e6 : x.f0 = 6
        · rw [if_pos ⟨e6, ht⟩] at hnn
          rw [if_neg (by omega)] at he
          rw [if_pos e6]
          exact ih k (i + 1) _ _ _ (by omega) (by omega) (by omega) (by omega) (by omega)
        · rw [if_neg (by omega)] at hnn
          rw [if_neg e6]
          by_cases e7 : x.f0 = 7
          · rw [if_pos ⟨e7, ht⟩] at he
            rw [if_pos e7]
            exact ih k (i + 1) _ _ _ (by omega) (by omega) (by omega) (by omega) (by omega)
          · rw [if_neg (by omega)] at he
            rw [if_neg e7]
            exact ih k (i + 1) _ _ _ (by omega) (by omega) (by omega) (by omega) (by omega)
    · rw [if_neg (by omega)] at hy hnn he
      rw [if_neg ht]
      exact ih k (i + 1) _ _ _ (by omega) (by omega) (by omega) (by omega) (by omega)
theorem tripsKept_l0 (rs : List S62) (hl : rs.length ≤ 20) (l : List S73) (h6 : l.length ≤ 6) (ha : TellsAll l rs) : ∀ (d : Nat) (t : Nat), 1 ≤ t → t + d = l.length + 1 → ∀ k, 30 * d + 2 ≤ k → Ex (laws_FnTripsKept.l0 k rs l t) (fun r => r = true) := by
  intro d
  induction d with
  | zero =>
    intro t h1 h2 k hk
    obtain ⟨k, rfl⟩ := tfuel (show 0 < k by omega)
    rw [laws_FnTripsKept.l0, if_neg (by omega)]
    exact Ex.ret rfl
  | succ d ih =>
    intro t h1 h2 k hk
    obtain ⟨k, rfl⟩ := tfuel (show 0 < k by omega)
    rw [laws_FnTripsKept.l0, if_pos (by omega)]
    exact tripsKept_l1 rs (by omega) l h6 t h1 (by omega) ha (30 * d + 2) (fun k' hk' => ih (t + 1) (by omega) (by omega) k' hk') rs.length k 0 0 0 0 (by omega) (by omega) (by rw [List.drop_zero]; omega) (by rw [List.drop_zero]; omega) (by rw [List.drop_zero]; omega)
theorem FnTripsKept : laws_FnTripsKept.Pure := by
  intro l0 _ _ h0
  refine ⟨5000, Ex.some_ ?_⟩
  generalize hk : 5000 = k
  unfold laws_FnTripsKept.f
  refine Ex.ite (fun _ => Ex.ret rfl) (fun _ => Ex.bind (drawTripsOf_ex k l0 h0 (by omega)) (fun rs hr => ?_))
  obtain ⟨hl, hs⟩ := hr
  rw [tripsOf_spec rs (by omega) (fun x hx => by have := hs x hx; omega) k (by omega), tripsOf_impl rs (by omega) k (by omega)]
  refine Ex.bindS (Ex.bindS (Ex.ite (fun h => by simp at h) (fun _ => ?_)))
  by_cases ho : (ofT [] rs).2 = true
  · have hw := ofT_well rs [] nil_trips ho
    have h6 := (trips_parts hw).1
    rw [lnTrips_refl _ (by omega) (well_short hw) k (by omega)]
    refine Ex.bindS (Ex.ite (fun _ => ?_) (fun h => absurd rfl h))
    obtain ⟨k, rfl⟩ := tfuel (show 0 < k by omega)
    rw [laws_FnTripsKept.j0, ho, if_neg (by simp)]
    have ha := tells_of rs [] [] tells_nil ho
    exact tripsKept_l0 rs (by omega) _ h6 ha (ofT [] rs).1.length 1 (by omega) (by omega) k (by omega)
  · have ho' : (ofT [] rs).2 = false := by simpa using ho
    have e := ofT_fail rs [] ho'
    rw [e]
    dsimp only
    rw [lnTrips_refl [] (by simp) (fun x hx => by simp at hx) k (by omega)]
    refine Ex.bindS (Ex.ite (fun _ => ?_) (fun h => absurd rfl h))
    obtain ⟨k, rfl⟩ := tfuel (show 0 < k by omega)
    rw [laws_FnTripsKept.j0, if_pos (by rfl), if_pos (by rfl), lnTrips_refl [] (by simp) (fun x hx => by simp at hx) k (by omega)]
    exact ⟨true, rfl, rfl⟩

end Go.Proofs.Ytjccnaklodbbfaa.Pure
