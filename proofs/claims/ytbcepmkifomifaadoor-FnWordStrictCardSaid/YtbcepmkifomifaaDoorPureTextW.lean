/- The pure side of the texts of words: there are 162 words that are ok; of each the program and the reference write the same text, and no two have one. -/
import Derived.Test.YtbcepmkifomifaaDoorPureWord
import Derived.Test.YtbcepmkifomifaaDoorZp3
import Derived.Test.YtbcepmkifomifaaDoorZp1
import Derived.Lib.Strings
namespace Go.Proofs.YtbcepmkifomifaaDoor.Pure
open Go.RowKit Go.Proofs.YtbcepmkifomifaaDoor.Print Go.Proofs.YtbcepmkifomifaaDoorW.PrintWords Go.Proofs.YtbcepmkifomifaaDoorW.PrintLast

def words : List (Int × Int × Int × Int) := ([1, 2, 3, 4, 5, 6, 7] : List Int).flatMap fun a => ([1, 2, 3] : List Int).flatMap fun b => ([1, 2, 3, 4, 5, 6] : List Int).flatMap fun c => (if a = 1 then [1, 2, 3] else [0] : List Int).map fun d => (a, b, c, d)
theorem words_mem {a b c d : Int} (h : wordB a b c d = true) : (a, b, c, d) ∈ words := by
  simp only [wordB, decide_eq_true_eq] at h
  simp only [words, List.mem_flatMap, List.mem_map]
  refine ⟨a, by simp; omega, b, by simp; omega, c, by simp; omega, d, ?_, rfl⟩
  by_cases ha : a = 1
  · rw [if_pos ha]; simp; omega
  · rw [if_neg ha]; simp; omega
/-- A word's text. -/
def wT (a b c d : Int) : ByteArray := (impl_WordText.f a b c d).getD ⟨#[]⟩
/-- A text taken apart: what stands before each blank, each a list of bytes. -/
def cutL : List UInt8 → List UInt8 → List (List UInt8)
  | x, [] => [x]
  | x, c :: r => if c = 32 then x :: cutL [] r else cutL (x ++ [c]) r
def figs (s : ByteArray) : List (List UInt8) := cutL [] s.data.toList
def unW (s : ByteArray) : Int × Int × Int × Int :=
  let p := figs s
  let n := fun i => ((((p.getD i []).getD 0 48).toNat : Nat) : Int) - 48
  (((List.map (fun x => figs x) ((impl_wordWords.f).getD [])).idxOf [p.getD 0 []] : Nat), n 1, n 2, n 3)
set_option maxRecDepth 100000 in
theorem words_text : (words.all fun w => decide (impl_WordText.f w.1 w.2.1 w.2.2.1 w.2.2.2 = some (wT w.1 w.2.1 w.2.2.1 w.2.2.2)) && decide (spec_WordText.f 4 w.1 w.2.1 w.2.2.1 w.2.2.2 = some (wT w.1 w.2.1 w.2.2.1 w.2.2.2)) && decide (unW (wT w.1 w.2.1 w.2.2.1 w.2.2.2) = w) && decide ((wT w.1 w.2.1 w.2.2.1 w.2.2.2).data.toList ≠ [])) = true := by decide +kernel
theorem word_text {a b c d : Int} (h : wordB a b c d = true) : impl_WordText.f a b c d = some (wT a b c d) ∧ spec_WordText.f 4 a b c d = some (wT a b c d) ∧ unW (wT a b c d) = (a, b, c, d) ∧ (wT a b c d).data.toList ≠ [] := by
  have := List.all_eq_true.1 words_text _ (words_mem h)
  simp only [Bool.and_eq_true, decide_eq_true_eq] at this
  exact ⟨this.1.1.1, this.1.1.2, this.1.2, this.2⟩
/-- What WordText returns: the text, or none. -/
def wText (a b c d : Int) : ByteArray := if wordB a b c d = true then wT a b c d else ⟨#[]⟩
theorem wordText_impl (a b c d : Int) : impl_WordText.f a b c d = some (wText a b c d) := by
  unfold wText
  by_cases h : wordB a b c d = true
  · rw [if_pos h]; exact (word_text h).1
  · rw [if_neg h]
    unfold impl_WordText.f
    rw [wordOk_impl]
    simp only [Option.bind_some]
    rw [if_neg h]
theorem wordText_spec (k : Nat) (hk : 4 ≤ k) (a b c d : Int) : spec_WordText.f k a b c d = some (wText a b c d) := by
  unfold wText
  by_cases h : wordB a b c d = true
  · rw [if_pos h]
    exact at_rounds (g := fun k => spec_WordText.f k a b c d) (fun k => spec_WordText.mono a b c d k) hk (word_text h).2.1
  · rw [if_neg h]
    unfold spec_WordText.f
    rw [wordOk_spec k (by omega)]
    simp only [Option.bind_some]
    rw [if_neg h]
theorem toL (s : ByteArray) : s.toList = s.data.toList := Lib.toList_data s
theorem wText_empty (a b c d : Int) : (wText a b c d).toList = [] ↔ wordB a b c d = false := by
  rw [toL]
  unfold wText
  by_cases h : wordB a b c d = true
  · rw [if_pos h]
    constructor
    · intro e; exact absurd e (word_text h).2.2.2
    · intro e; rw [h] at e; cases e
  · rw [if_neg h]
    constructor
    · intro _; simpa using h
    · intro _; rfl
theorem wT_inj {a b c d a' b' c' d' : Int} (h : wordB a b c d = true) (h' : wordB a' b' c' d' = true) (e : wT a b c d = wT a' b' c' d') : (a, b, c, d) = (a', b', c', d') := by
  rw [← (word_text h).2.2.1, ← (word_text h').2.2.1, e]
theorem bytes_eq {s t : ByteArray} (h : s.toList = t.toList) : s = t := by
  rw [toL, toL] at h
  cases s; cases t
  congr 1
  exact Array.toList_inj.1 h

end Go.Proofs.YtbcepmkifomifaaDoor.Pure
