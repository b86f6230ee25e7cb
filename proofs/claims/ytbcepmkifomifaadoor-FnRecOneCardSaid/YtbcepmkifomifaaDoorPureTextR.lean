/- The pure side of the texts of records: there are 426 records that are ok; of each the program and the reference write the same text, and no two have one. -/
import Derived.Test.YtbcepmkifomifaaDoorPureRec
import Derived.Test.YtbcepmkifomifaaDoorZf1
import Derived.Test.YtbcepmkifomifaaDoorZf2
import Derived.Lib.Strings
namespace Go.Proofs.YtbcepmkifomifaaDoor.Pure
open Go.RowKit Go.Proofs.YtbcepmkifomifaaDoor.Print Go.Proofs.YtbcepmkifomifaaDoorW.PrintWords Go.Proofs.YtbcepmkifomifaaDoorW.PrintLast

def some3 : List (List Int) := (([0, 1, 2, 3] : List Int).flatMap fun x => ([0, 1, 2, 3] : List Int).flatMap fun y => ([0, 1, 2, 3] : List Int).map fun z => [x, y, z]).filter fun m => m.any (fun x => x != 0)
def recs : List (Int × Int × List Int) := ([1, 2, 3, 4, 5, 6, 7] : List Int).flatMap fun a => ([1, 2, 3, 4, 5, 6] : List Int).flatMap fun b => (if a = 1 then [[1], [2], [3]] else if a = 4 then some3 else [[]]).map fun m => (a, b, m)
theorem some3_mem {m : List Int} (h : manyB m = true) : m ∈ some3 := by
  simp only [manyB, decide_eq_true_eq] at h
  obtain ⟨h1, h2, h3⟩ := h
  match m, h1 with
  | [x, y, z], _ =>
    have hx := h2 x (by simp)
    have hy := h2 y (by simp)
    have hz := h2 z (by simp)
    simp only [some3, List.mem_filter, List.mem_flatMap, List.mem_map]
    refine ⟨⟨x, by simp; omega, y, by simp; omega, z, by simp; omega, rfl⟩, ?_⟩
    obtain ⟨q, hq, hn⟩ := h3
    exact List.any_eq_true.2 ⟨q, hq, by simpa using hn⟩
theorem recs_mem {a b : Int} {m : List Int} (h : recB a b m = true) : (a, b, m) ∈ recs := by
  simp only [recB, Bool.and_eq_true, decide_eq_true_eq] at h
  obtain ⟨h1, h2⟩ := h
  simp only [recs, List.mem_flatMap, List.mem_map]
  refine ⟨a, by simp; omega, b, by simp; omega, m, ?_, rfl⟩
  by_cases ha : a = 1
  · rw [if_pos ha] at h2 ⊢
    simp only [decide_eq_true_eq] at h2
    match m, h2 with
    | [x], h2 => simp [rd] at h2 ⊢; omega
  · rw [if_neg ha] at h2 ⊢
    by_cases h4 : a = 4
    · rw [if_pos h4] at h2 ⊢; exact some3_mem h2
    · rw [if_neg h4] at h2 ⊢
      simp only [decide_eq_true_eq] at h2
      simp [List.eq_nil_of_length_eq_zero h2]
/-- A record's text. -/
def rT (a b : Int) (m : List Int) : ByteArray := (impl_RecText.f a b m).getD ⟨#[]⟩
/-- A text taken apart: what stands before each blank, each a list of bytes. -/
def cutR : List UInt8 → List UInt8 → List (List UInt8)
  | x, [] => [x]
  | x, c :: r => if c = 32 then x :: cutR [] r else cutR (x ++ [c]) r
def figsR (s : ByteArray) : List (List UInt8) := cutR [] s.data.toList
def unR (s : ByteArray) : Int × Int × List Int :=
  let p := figsR s
  let n := fun (x : List UInt8) => (((x.getD 0 48).toNat : Nat) : Int) - 48
  (((List.map (fun x => figsR x) ((impl_recWords.f).getD [])).idxOf [p.getD 0 []] : Nat), n (p.getD 1 []), (p.drop 2).map n)
set_option maxRecDepth 100000 in
theorem recs_text : (recs.all fun w => decide (impl_RecText.f w.1 w.2.1 w.2.2 = some (rT w.1 w.2.1 w.2.2)) && decide (spec_RecText.f 10 w.1 w.2.1 w.2.2 = some (rT w.1 w.2.1 w.2.2)) && decide (unR (rT w.1 w.2.1 w.2.2) = w) && decide ((rT w.1 w.2.1 w.2.2).data.toList ≠ [])) = true := by decide +kernel
theorem rec_text {a b : Int} {m : List Int} (h : recB a b m = true) : impl_RecText.f a b m = some (rT a b m) ∧ spec_RecText.f 10 a b m = some (rT a b m) ∧ unR (rT a b m) = (a, b, m) ∧ (rT a b m).data.toList ≠ [] := by
  have := List.all_eq_true.1 recs_text _ (recs_mem h)
  simp only [Bool.and_eq_true, decide_eq_true_eq] at this
  exact ⟨this.1.1.1, this.1.1.2, this.1.2, this.2⟩
/-- What RecText returns: the text, or none. -/
def rText (a b : Int) (m : List Int) : ByteArray := if recB a b m = true then rT a b m else ⟨#[]⟩
theorem recText_impl (a b : Int) (m : List Int) : impl_RecText.f a b m = some (rText a b m) := by
  unfold rText
  by_cases h : recB a b m = true
  · rw [if_pos h]; exact (rec_text h).1
  · rw [if_neg h]
    unfold impl_RecText.f
    rw [recOk_impl]
    simp only [Option.bind_some]
    rw [if_neg h]
theorem recText_spec (k : Nat) (hk : 10 ≤ k) (a b : Int) (m : List Int) (hl : m.length ≤ 1000000000) (hm : m.length < k) : spec_RecText.f k a b m = some (rText a b m) := by
  unfold rText
  by_cases h : recB a b m = true
  · rw [if_pos h]
    exact at_rounds (g := fun k => spec_RecText.f k a b m) (fun k => spec_RecText.mono a b m k) hk (rec_text h).2.1
  · rw [if_neg h]
    unfold spec_RecText.f
    rw [recOk_spec a b m hl k hm]
    simp only [Option.bind_some]
    rw [if_neg h]
theorem toLR (s : ByteArray) : s.toList = s.data.toList := Lib.toList_data s
theorem rText_empty (a b : Int) (m : List Int) : (rText a b m).toList = [] ↔ recB a b m = false := by
  rw [toLR]
  unfold rText
  by_cases h : recB a b m = true
  · rw [if_pos h]
    constructor
    · intro e; exact absurd e (rec_text h).2.2.2
    · intro e; rw [h] at e; cases e
  · rw [if_neg h]
    constructor
    · intro _; simpa using h
    · intro _; rfl
theorem rT_inj {a b a' b' : Int} {m m' : List Int} (h : recB a b m = true) (h' : recB a' b' m' = true) (e : rT a b m = rT a' b' m') : (a, b, m) = (a', b', m') := by
  rw [← (rec_text h).2.2.1, ← (rec_text h').2.2.1, e]
theorem bytesR_eq {s t : ByteArray} (h : s.toList = t.toList) : s = t := by
  rw [toLR, toLR] at h
  cases s; cases t
  congr 1
  exact Array.toList_inj.1 h

end Go.Proofs.YtbcepmkifomifaaDoor.Pure
