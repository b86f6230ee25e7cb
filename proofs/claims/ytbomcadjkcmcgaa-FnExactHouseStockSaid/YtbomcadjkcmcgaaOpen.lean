-- Written by myprint.py, a program of this session: how what came in is laid open, type by type. Not trusted, Lean checks it.
import Derived.Test.YtbomcadjkcmcgaaZK
import Derived.Deep.Slices
import Derived.ChangeArms
import Derived.DataReads
namespace Go.Proofs.Ytbomcadjkcmcgaa.Print
open Go.RowKit Go.Deep Go.Proofs.YtbomcadjkcmcgaaW.PrintWords
set_option linter.unusedVariables false
/-- Whatever can be read as data of type t is of kind d; ok holds of what it is. -/
def Opens (P : Program) (t : TypeId) {α : Type} (d : Kd α) (ok : α → Prop) : Prop :=
  ∀ (H : Type) (enc : TypeId × Value → H) (w : World) (base : Nat) (spare : Nat → Bool) (held : Bool) (fuel : Nat) (cs : List Value) (x : DataW H × List MemPlace), DataW.trod enc P w base spare held fuel t cs = some x → ∃ y, d.K w y cs ∧ ok y
theorem List.head_eq_of_cons_eq {α : Type} {a b : α} {l l' : List α} (h : a :: l = b :: l') : a = b := by injection h
theorem opens_int {P : Program} {t : TypeId} {k : IntKind} (ht : P.underlying t = some (.int k)) : Opens P t (Kd.int k) (fun n => (Lit.int k n).wf = true) := by
  intro H enc w base spare held fuel cs x h
  obtain ⟨n, rfl, _, hw⟩ := DataW.trod_int ht h
  exact ⟨n, rfl, hw⟩
theorem opens_bool {P : Program} {t : TypeId} (ht : P.underlying t = some .bool) : Opens P t Kd.bool (fun _ => True) := by
  intro H enc w base spare held fuel cs x h
  obtain ⟨n, rfl, _⟩ := DataW.trod_bool ht h
  exact ⟨n, rfl, trivial⟩
theorem exists_list {α : Type} {Q : Nat → α → Prop} : ∀ n, (∀ i, i < n → ∃ y, Q i y) → ∃ l : List α, l.length = n ∧ ∀ i y, l[i]? = some y → Q i y
  | 0, _ => ⟨[], rfl, fun i y h => by simp at h⟩
  | n + 1, h => by
    obtain ⟨l, hl, hq⟩ := exists_list n (fun i hi => h i (by omega))
    obtain ⟨y, hy⟩ := h n (by omega)
    refine ⟨l ++ [y], by simp [hl], fun i z hz => ?_⟩
    by_cases hi : i < n
    · rw [List.getElem?_append_left (by omega)] at hz
      exact hq i z hz
    · rw [List.getElem?_append_right (by omega)] at hz
      have h0 : i = n := by
        by_cases e : i = n
        · exact e
        · rw [List.getElem?_eq_none (by simp; omega)] at hz; cases hz
      subst h0
      rw [hl, Nat.sub_self] at hz
      simp at hz
      subst hz
      exact hy
theorem opens_slice {P : Program} {t e : TypeId} {α : Type} {d : Kd α} {ok : α → Prop} (ht : P.underlying t = some (.slice e)) (hsz : P.cellsOf e = d.sz) (ho : Opens P e d ok) : Opens P t (Kd.slice e d) (fun l => l.length ≤ 9223372036854775807 ∧ ∀ x ∈ l, ok x) := by
  intro H enc w base spare held fuel cs x h
  rcases open_slice ht h with ⟨rfl, _⟩ | ⟨a, len, cap, m, n, D, Pl, rfl, hb, hl, hcm, hm, _, hel⟩
  · exact ⟨[], ⟨none, 0, rfl, Nat.le_refl _, ⟨rfl, by simp, fun h => by simp at h⟩⟩, by simp, fun x hx => by simp at hx⟩
  · have hlm : len ≤ m := by rw [hm]; split <;> omega
    obtain ⟨l, hll, hq⟩ := exists_list (Q := fun i y => ok y ∧ ∃ c : List Value, c.length = d.sz ∧ d.K w y c ∧ ∀ j u, c[j]? = some u → w.cell? (a.add (i * d.sz + j)) = some u) len (fun i hi => by
      obtain ⟨cs', hc, htr⟩ := hel i (by omega)
      obtain ⟨_, hcl, hat⟩ := World.cells?_some hc
      obtain ⟨y, hK, hok⟩ := ho H enc w base spare held n cs' _ htr
      refine ⟨y, hok, cs', by omega, hK, fun j u hu => ?_⟩
      have hj : j < cs'.length := (List.getElem?_eq_some_iff.1 hu).1
      rw [← hsz, ← Go.Deep.add_add, hat j (by omega)]
      exact hu)
    simp only [maxLen] at hcm
    refine ⟨l, ⟨some a, cap, by rw [hll], by omega, ⟨rfl, by omega, fun _ => ⟨a, rfl, fun j p hp => ?_⟩⟩⟩, by omega, fun x hx => ?_⟩
    · obtain ⟨_, c, h1, h2, h3⟩ := hq j p hp
      exact ⟨c, h1, h2, h3⟩
    · obtain ⟨i, hi, rfl⟩ := List.getElem_of_mem hx
      exact (hq i _ (List.getElem?_eq_getElem hi)).1
theorem trod_fields {P : Program} {H : Type} {enc : TypeId × Value → H} {w : World} {base : Nat} {spare : Nat → Bool} {held : Bool} {fuel : Nat} {t : TypeId} {cs : List Value} {x : DataW H × List MemPlace} {fs : Array Field} (ht : P.underlying t = some (.struct fs))
    (h : DataW.trod enc P w base spare held fuel t cs = some x) : ∃ m, cs.length = P.cellsOf t ∧ ∀ (i : Nat) (f : Field), fs[i]? = some f → ∃ y, DataW.trod enc P w base spare held m f.type ((cs.drop f.offset).take (P.cellsOf f.type)) = some y := by
  obtain ⟨xs, n, _, _, hl, hlen, hg⟩ := DataW.trod_struct ht h
  refine ⟨n, hl, fun i f hf => ?_⟩
  have hi : i < xs.length := by rw [hlen]; exact (Array.getElem?_eq_some_iff.1 hf).1
  exact ⟨xs[i], (hg i f hf).trans (List.getElem?_eq_getElem hi)⟩

theorem arr5 : ∀ (a : Array Value), a.size = 5 → ∃ c0 c1 c2 c3 c4, a = #[c0, c1, c2, c3, c4]
  | ⟨[c0, c1, c2, c3, c4]⟩, _ => ⟨c0, c1, c2, c3, c4, rfl⟩
def ok3 (x : Int) : Prop := (Lit.int .i64 x).wf = true
theorem opens3 : Opens Try.prog 3 (Kd.int .i64) ok3 := opens_int Try.underlying3
def ok4 (x : Bool) : Prop := True
theorem opens4 : Opens Try.prog 4 Kd.bool ok4 := opens_bool Try.underlying4
def ok60 (x : List Int) : Prop := x.length ≤ 9223372036854775807 ∧ ∀ x_ ∈ x, ok3 x_
theorem opens60 : Opens Try.prog 60 (Kd.slice 3 (Kd.int .i64)) ok60 := opens_slice Try.underlying60 (by kernel_rfl) opens3
def ok75 (x : S75) : Prop := ok3 x.f0 ∧ ok3 x.f1 ∧ ok60 x.f2
set_option maxRecDepth 100000 in
theorem opens75 : Opens Try.prog 75 k75 ok75 := by
  intro H enc w base spare held fuel cs x h
  obtain ⟨m, hl, hf⟩ := trod_fields Try.underlying75 h
  rw [show Try.prog.cellsOf 75 = 3 from by kernel_rfl] at hl
  match cs, hl with
  | [c0, c1, c2], _ =>
    obtain ⟨y0, g0⟩ := hf 0 _ rfl
    have g0' : DataW.trod enc Try.prog w base spare held m 3 [c0] = some y0 := by simpa [show Try.prog.cellsOf 3 = 1 from by kernel_rfl] using g0
    obtain ⟨x0, q0, o0⟩ := opens3 _ _ _ _ _ _ _ _ _ g0'
    obtain rfl : c0 = _ := List.head_eq_of_cons_eq q0
    obtain ⟨y1, g1⟩ := hf 1 _ rfl
    have g1' : DataW.trod enc Try.prog w base spare held m 3 [c1] = some y1 := by simpa [show Try.prog.cellsOf 3 = 1 from by kernel_rfl] using g1
    obtain ⟨x1, q1, o1⟩ := opens3 _ _ _ _ _ _ _ _ _ g1'
    obtain rfl : c1 = _ := List.head_eq_of_cons_eq q1
    obtain ⟨y2, g2⟩ := hf 2 _ rfl
    have g2' : DataW.trod enc Try.prog w base spare held m 60 [c2] = some y2 := by simpa [show Try.prog.cellsOf 60 = 1 from by kernel_rfl] using g2
    obtain ⟨x2, q2, o2⟩ := opens60 _ _ _ _ _ _ _ _ _ g2'
    obtain ⟨A2, d2, e2, l2, r2⟩ := q2
    obtain rfl : c2 = _ := List.head_eq_of_cons_eq e2
    exact ⟨⟨x0, x1, x2⟩, k75_mk w ⟨x0, x1, x2⟩ l2 r2, ⟨o0, o1, o2⟩⟩
def ok22 (x : List (S75)) : Prop := x.length ≤ 9223372036854775807 ∧ ∀ x_ ∈ x, ok75 x_
theorem opens22 : Opens Try.prog 22 (Kd.slice 75 k75) ok22 := opens_slice Try.underlying22 (by kernel_rfl) opens75
end Go.Proofs.Ytbomcadjkcmcgaa.Print
