-- Written by squeeze.py, a program of this session, out of what print.sh and myprint.py had printed: cut to what is used, narrowed. Not trusted, Lean checks it.
import Derived.Test.YtjccnaklodbbfaaZW0
namespace Go.Proofs.Ytjccnaklodbbfaa.Print
open Go.RowKit Go.Proofs.YtjccnaklodbbfaaW.PrintWords Go.Proofs.YtjccnaklodbbfaaW.PrintLast Go.Proofs.YtjccnaklodbbfaaW.PrintMore
attribute [local go_sem] max2_int min2_int max_two min_two max_three min_three max_four min_four
set_option linter.unusedVariables false
set_option linter.unusedSimpArgs false
def errW : Option Int → Value
  | none => .nilIface
  | some c => .iface 0 (.int .i64 c)
theorem qaw : errW none = .nilIface := rfl
theorem qav (c : Int) : errW (some c) = .iface 0 (.int .i64 c) := rfl
def anyO {α : Type} (p : α → Option Bool) : List α → Option Bool
  | [] => some false
  | x :: xs => (p x).bind fun b => if b = true then some true else anyO p xs
theorem anyO_cons {α : Type} {p : α → Option Bool} {x : α} {xs : List α} {r : Bool} (h : anyO p (x :: xs) = some r) : ∃ b, p x = some b ∧ ((b = true ∧ r = true) ∨ (b = false ∧ anyO p xs = some r)) := by
  simp only [anyO] at h
  obtain ⟨b, hb, h⟩ := Option.bind_eq_some_iff.mp h
  refine ⟨b, hb, ?_⟩
  cases b with
  | true => rw [if_pos rfl] at h; injection h with h; exact .inl ⟨rfl, h.symm⟩
  | false => rw [if_neg (by decide)] at h; exact .inr ⟨rfl, h⟩
def IdxQ (r : Bool) (w : World) (e : Ending) (w' : World) : Prop := ∃ i : Int, e = .returned (.int .i64 i) ∧ decide (0 ≤ i) = r ∧ Drawn0 w w'
def IdxB (r : Bool) (w : World) (e : Ending) (w' : World) : Prop := ∃ i : Int, e = .returned (.int .i64 i) ∧ decide (0 ≤ i) = r ∧ Below w.heap.size w w'
theorem anyO_mono {α : Type} {p q : α → Option Bool} (h : ∀ x, LeO (p x) (q x)) : ∀ l, LeO (anyO p l) (anyO q l)
  | [] => LeO.refl _
  | x :: xs => LeO.bind (h x) (fun b => LeO.ite (LeO.refl _) (anyO_mono h xs))
theorem info3 : (Try.prog.info? 3).map (fun i => (i.zero, i.size, i.bytes)) = some (some (.int .i64 0), 1, 8) := by kernel_rfl
theorem info5 : (Try.prog.info? 5).map (fun i => (i.zero, i.size, i.bytes)) = some (some (.int .u8 0), 1, 1) := by kernel_rfl
theorem info46 : (Try.prog.info? 46).map (fun i => (i.zero, i.size, i.bytes)) = some (some (.agg #[(.int .i64 0), (.int .i64 0)]), 2, 16) := by kernel_rfl
theorem info62 : (Try.prog.info? 62).map (fun i => (i.zero, i.size, i.bytes)) = some (some (.agg #[(.int .i64 0), (.int .i64 0), (.slice none 0 0)]), 3, 40) := by kernel_rfl
theorem info73 : (Try.prog.info? 73).map (fun i => (i.zero, i.size, i.bytes)) = some (some (.agg #[(.slice none 0 0), (.int .i64 0)]), 2, 32) := by kernel_rfl
structure S46 where
  f0 : Int
  f1 : Int
def z46 : S46 := ⟨(0 : Int), (0 : Int)⟩
def k46 : Kd S46 := Kd.iso (Kd.pair (Kd.int .i64) (Kd.int .i64)) (fun x : S46 => (x.f0, x.f1))
theorem k46_open {w : World} {x : S46} {cs : List Value} (h : k46.K w x cs) : cs = [.int .i64 x.f0, .int .i64 x.f1] := by
  obtain ⟨_, _, rfl, rfl, rfl⟩ := h
  exact rfl
theorem k46_openM {w : World} {base : Nat} {ok : Nat → Prop} {x : S46} {cs : List Value} (h : k46.M w base ok x cs) : cs = [.int .i64 x.f0, .int .i64 x.f1] := by
  obtain ⟨_, _, rfl, rfl, rfl⟩ := h
  exact rfl
theorem k46_mkM (w : World) (base : Nat) (ok : Nat → Prop) (x : S46)  : k46.M w base ok x [.int .i64 x.f0, .int .i64 x.f1] := ⟨[.int .i64 x.f0], [.int .i64 x.f1], rfl, rfl, rfl⟩
def rd_T46 (xs : List S46) (i : Int) : S46 := xs.getD i.toNat z46
theorem at_T46 {w : World} {A : Option Addr} {n : Nat} {xs : List S46} (h : Kd.C k46 w A n xs) (i : Int) (h0 : 0 ≤ i) (h1 : i < n) : ∃ ad , A = some ad ∧ w.cell? (ad.add (i.toNat * 2)) = some (.int .i64 (rd_T46 xs i).f0) ∧ w.cell? ⟨(ad.add (i.toNat * 2)).block, (ad.add (i.toNat * 2)).off + 1, none⟩ = some (.int .i64 (rd_T46 xs i).f1) := by
  obtain ⟨ad, c, e, _, hK, hc0⟩ := Kd.C_get h z46 i h0 h1
  have hc : ∀ j u, c[j]? = some u → w.cell? (ad.add (i.toNat * 2 + j)) = some u := hc0
  obtain rfl := k46_open hK
  exact ⟨ad, e, hc 0 _ rfl, by rw [← add_field _ _ 1 (by omega)]; exact hc 1 _ rfl⟩
structure S62 where
  f0 : Int
  f1 : Int
  f2 : (List Int)
def z62 : S62 := ⟨(0 : Int), (0 : Int), ([] : List Int)⟩
def k62 : Kd S62 := Kd.iso (Kd.pair (Kd.int .i64) (Kd.pair (Kd.int .i64) (Kd.slice 3 (Kd.int .i64)))) (fun x : S62 => (x.f0, x.f1, x.f2))
theorem k62_heap : Kd.Heap k62 := Kd.heap_iso _ (Kd.heap_pair (Kd.heap_int .i64) (Kd.heap_pair (Kd.heap_int .i64) (Kd.heap_slice 3 (Kd.heap_int .i64))))
theorem k62_open {w : World} {x : S62} {cs : List Value} (h : k62.K w x cs) : ∃ A2 c2, cs = [.int .i64 x.f0, .int .i64 x.f1, .slice A2 x.f2.length c2] ∧ x.f2.length ≤ c2 ∧ (Kd.int .i64).C w A2 x.f2.length x.f2 := by
  obtain ⟨_, _, rfl, rfl, ⟨_, _, rfl, rfl, ⟨A2, c2, rfl, l2, g2⟩⟩⟩ := h
  exact ⟨A2, c2, rfl, l2, g2⟩
theorem k62_mkM (w : World) (base : Nat) (ok : Nat → Prop) (x : S62) {v2 : Value} (g2 : (Kd.int .i64).R 3 w base ok v2 x.f2) : k62.M w base ok x [.int .i64 x.f0, .int .i64 x.f1, v2] := ⟨[.int .i64 x.f0], [.int .i64 x.f1, v2], rfl, rfl, ⟨[.int .i64 x.f1], [v2], rfl, rfl, ⟨v2, rfl, g2⟩⟩⟩
def rd_T62 (xs : List S62) (i : Int) : S62 := xs.getD i.toNat z62
theorem at_T62 {w : World} {A : Option Addr} {n : Nat} {xs : List S62} (h : Kd.C k62 w A n xs) (i : Int) (h0 : 0 ≤ i) (h1 : i < n) : ∃ ad A2 c2, A = some ad ∧ w.cell? (ad.add (i.toNat * 3)) = some (.int .i64 (rd_T62 xs i).f0) ∧ w.cell? ⟨(ad.add (i.toNat * 3)).block, (ad.add (i.toNat * 3)).off + 1, none⟩ = some (.int .i64 (rd_T62 xs i).f1) ∧ w.cell? ⟨(ad.add (i.toNat * 3)).block, (ad.add (i.toNat * 3)).off + 2, none⟩ = some (.slice A2 (rd_T62 xs i).f2.length c2) ∧ (rd_T62 xs i).f2.length ≤ c2 ∧ (Kd.int .i64).C w A2 (rd_T62 xs i).f2.length (rd_T62 xs i).f2 := by
  obtain ⟨ad, c, e, _, hK, hc0⟩ := Kd.C_get h z62 i h0 h1
  have hc : ∀ j u, c[j]? = some u → w.cell? (ad.add (i.toNat * 3 + j)) = some u := hc0
  obtain ⟨A2, c2, rfl, l2, g2⟩ := k62_open hK
  exact ⟨ad, A2, c2, e, hc 0 _ rfl, by rw [← add_field _ _ 1 (by omega)]; exact hc 1 _ rfl, by rw [← add_field _ _ 2 (by omega)]; exact hc 2 _ rfl, l2, g2⟩
structure S131 where
  f0 : Int
  f1 : Int
def z131 : S131 := ⟨(0 : Int), (0 : Int)⟩
def k131 : Kd S131 := Kd.iso (Kd.pair (Kd.int .i64) (Kd.int .i64)) (fun x : S131 => (x.f0, x.f1))
theorem k131_open {w : World} {x : S131} {cs : List Value} (h : k131.K w x cs) : cs = [.int .i64 x.f0, .int .i64 x.f1] := by
  obtain ⟨_, _, rfl, rfl, rfl⟩ := h
  exact rfl
theorem k131_mk (w : World) (x : S131)  : k131.K w x [.int .i64 x.f0, .int .i64 x.f1] := ⟨[.int .i64 x.f0], [.int .i64 x.f1], rfl, rfl, rfl⟩
def rd_T131 (xs : List S131) (i : Int) : S131 := xs.getD i.toNat z131
theorem at_T131 {w : World} {A : Option Addr} {n : Nat} {xs : List S131} (h : Kd.C k131 w A n xs) (i : Int) (h0 : 0 ≤ i) (h1 : i < n) : ∃ ad , A = some ad ∧ w.cell? (ad.add (i.toNat * 2)) = some (.int .i64 (rd_T131 xs i).f0) ∧ w.cell? ⟨(ad.add (i.toNat * 2)).block, (ad.add (i.toNat * 2)).off + 1, none⟩ = some (.int .i64 (rd_T131 xs i).f1) := by
  obtain ⟨ad, c, e, _, hK, hc0⟩ := Kd.C_get h z131 i h0 h1
  have hc : ∀ j u, c[j]? = some u → w.cell? (ad.add (i.toNat * 2 + j)) = some u := hc0
  obtain rfl := k131_open hK
  exact ⟨ad, e, hc 0 _ rfl, by rw [← add_field _ _ 1 (by omega)]; exact hc 1 _ rfl⟩
structure S73 where
  f0 : (List Int)
  f1 : Int
def z73 : S73 := ⟨([] : List Int), (0 : Int)⟩
def k73 : Kd S73 := Kd.iso (Kd.pair (Kd.slice 3 (Kd.int .i64)) (Kd.int .i64)) (fun x : S73 => (x.f0, x.f1))
theorem k73_open {w : World} {x : S73} {cs : List Value} (h : k73.K w x cs) : ∃ A0 c0, cs = [.slice A0 x.f0.length c0, .int .i64 x.f1] ∧ x.f0.length ≤ c0 ∧ (Kd.int .i64).C w A0 x.f0.length x.f0 := by
  obtain ⟨_, _, rfl, ⟨A0, c0, rfl, l0, g0⟩, rfl⟩ := h
  exact ⟨A0, c0, rfl, l0, g0⟩
theorem k73_openM {w : World} {base : Nat} {ok : Nat → Prop} {x : S73} {cs : List Value} (h : k73.M w base ok x cs) : ∃ v0, cs = [v0, .int .i64 x.f1] ∧ (Kd.int .i64).R 3 w base ok v0 x.f0 := by
  obtain ⟨_, _, rfl, ⟨v0, rfl, g0⟩, rfl⟩ := h
  exact ⟨v0, rfl, g0⟩
theorem k73_mkM (w : World) (base : Nat) (ok : Nat → Prop) (x : S73) {v0 : Value} (g0 : (Kd.int .i64).R 3 w base ok v0 x.f0) : k73.M w base ok x [v0, .int .i64 x.f1] := ⟨[v0], [.int .i64 x.f1], rfl, ⟨v0, rfl, g0⟩, rfl⟩
def rd_T73 (xs : List S73) (i : Int) : S73 := xs.getD i.toNat z73
theorem at_T73 {w : World} {A : Option Addr} {n : Nat} {xs : List S73} (h : Kd.C k73 w A n xs) (i : Int) (h0 : 0 ≤ i) (h1 : i < n) : ∃ ad A0 c0, A = some ad ∧ w.cell? (ad.add (i.toNat * 2)) = some (.slice A0 (rd_T73 xs i).f0.length c0) ∧ w.cell? ⟨(ad.add (i.toNat * 2)).block, (ad.add (i.toNat * 2)).off + 1, none⟩ = some (.int .i64 (rd_T73 xs i).f1) ∧ (rd_T73 xs i).f0.length ≤ c0 ∧ (Kd.int .i64).C w A0 (rd_T73 xs i).f0.length (rd_T73 xs i).f0 := by
  obtain ⟨ad, c, e, _, hK, hc0⟩ := Kd.C_get h z73 i h0 h1
  have hc : ∀ j u, c[j]? = some u → w.cell? (ad.add (i.toNat * 2 + j)) = some u := hc0
  obtain ⟨A0, c0, rfl, l0, g0⟩ := k73_open hK
  exact ⟨ad, A0, c0, e, hc 0 _ rfl, by rw [← add_field _ _ 1 (by omega)]; exact hc 1 _ rfl, l0, g0⟩
structure S113 where
  f0 : (List Int)
  f1 : Int
def z113 : S113 := ⟨([] : List Int), (0 : Int)⟩
def k113 : Kd S113 := Kd.iso (Kd.pair (Kd.slice 3 (Kd.int .i64)) (Kd.int .i64)) (fun x : S113 => (x.f0, x.f1))
theorem k113_open {w : World} {x : S113} {cs : List Value} (h : k113.K w x cs) : ∃ A0 c0, cs = [.slice A0 x.f0.length c0, .int .i64 x.f1] ∧ x.f0.length ≤ c0 ∧ (Kd.int .i64).C w A0 x.f0.length x.f0 := by
  obtain ⟨_, _, rfl, ⟨A0, c0, rfl, l0, g0⟩, rfl⟩ := h
  exact ⟨A0, c0, rfl, l0, g0⟩
theorem k113_mk (w : World) (x : S113) {A0 : Option Addr} {c0 : Nat} (l0 : x.f0.length ≤ c0) (g0 : (Kd.int .i64).C w A0 x.f0.length x.f0) : k113.K w x [.slice A0 x.f0.length c0, .int .i64 x.f1] := ⟨[.slice A0 x.f0.length c0], [.int .i64 x.f1], rfl, ⟨A0, c0, rfl, l0, g0⟩, rfl⟩
def rd_T113 (xs : List S113) (i : Int) : S113 := xs.getD i.toNat z113
theorem at_T113 {w : World} {A : Option Addr} {n : Nat} {xs : List S113} (h : Kd.C k113 w A n xs) (i : Int) (h0 : 0 ≤ i) (h1 : i < n) : ∃ ad A0 c0, A = some ad ∧ w.cell? (ad.add (i.toNat * 2)) = some (.slice A0 (rd_T113 xs i).f0.length c0) ∧ w.cell? ⟨(ad.add (i.toNat * 2)).block, (ad.add (i.toNat * 2)).off + 1, none⟩ = some (.int .i64 (rd_T113 xs i).f1) ∧ (rd_T113 xs i).f0.length ≤ c0 ∧ (Kd.int .i64).C w A0 (rd_T113 xs i).f0.length (rd_T113 xs i).f0 := by
  obtain ⟨ad, c, e, _, hK, hc0⟩ := Kd.C_get h z113 i h0 h1
  have hc : ∀ j u, c[j]? = some u → w.cell? (ad.add (i.toNat * 2 + j)) = some u := hc0
  obtain ⟨A0, c0, rfl, l0, g0⟩ := k113_open hK
  exact ⟨ad, A0, c0, e, hc 0 _ rfl, by rw [← add_field _ _ 1 (by omega)]; exact hc 1 _ rfl, l0, g0⟩
theorem za0 {p_ q0_ : Prop} (h0_ : qal q0_) (r_ : q0_ → p_ := by intro h0_; (with_reducible repeat(first|refine qag ?_ _|refine qah ?_|refine qaf ?_ _));exact h0_) : p_ := r_ h0_.out
theorem za1 {p_ q0_ q1_ : Prop} (h0_ : qal q0_) (h1_ : qal q1_) (r_ : q0_ → q1_ → p_ := by intro h0_ h1_; repeat(first|(with_reducible first|exact h0_|apply qar|apply qap|apply qaq|refine qam ?_ h1_)|exact h0_)) : p_ := r_ h0_.out h1_.out
theorem za2 {p_ q0_ : Prop} (h0_ : qal q0_) (r_ : q0_ → p_ := by intro h0_; repeat(first|(with_reducible first|exact h0_|apply qar|apply qap|apply qaq)|exact h0_)) : p_ := r_ h0_.out
theorem za3 {p_ q0_ q1_ q2_ : Prop} (h0_ : qal q0_) (h1_ : qal q1_) (h2_ : qal q2_) (r_ : q0_ → q1_ → q2_ → p_ := by intro h0_ h1_ h2_; repeat(first|(with_reducible first|exact h0_|apply qar|apply qap|apply qaq|refine qam ?_ h1_|refine qam ?_ h2_)|exact h0_)) : p_ := r_ h0_.out h1_.out h2_.out
theorem za4 {p_ q0_ : Prop} (h0_ : qal q0_) (r_ : q0_ → p_ := by intro h0_; (with_reducible repeat(first|apply Kd.R_alloc|apply Kd.R_drewN|apply Kd.R_drew));exact h0_) : p_ := r_ h0_.out
theorem za5 {p_ q0_ q1_ : Prop} (h0_ : qal q0_) (h1_ : qal q1_) (r_ : q0_ → q1_ → p_ := by intro h0_ h1_; (with_reducible repeat(first|refine qag ?_ _|refine qah ?_|refine qaf ?_ _));refine blk_far ?_ h0_ _;(with_reducible repeat(first|refine qag ?_ _|refine qah ?_|refine qaf ?_ _));refine blk_far ?_ h0_ _;(with_reducible repeat(first|refine qag ?_ _|refine qah ?_|refine qaf ?_ _));exact h1_) : p_ := r_ h0_.out h1_.out
theorem za6 {p_ q0_ q1_ q2_ q3_ : Prop} (h0_ : qal q0_) (h1_ : qal q1_) (h2_ : qal q2_) (h3_ : qal q3_) (r_ : q0_ → q1_ → q2_ → q3_ → p_ := by intro h0_ h1_ h2_ h3_; repeat(first|(with_reducible first|exact h0_|apply qar|apply qap|apply qaq|refine qam ?_ h1_|refine qam ?_ h2_|refine qam ?_ h3_)|exact h0_)) : p_ := r_ h0_.out h1_.out h2_.out h3_.out
theorem za7 {p_ q0_ q1_ : Prop} (h0_ : qal q0_) (h1_ : qal q1_) (r_ : q0_ → q1_ → p_ := by intro h0_ h1_; (with_reducible repeat(first|refine qag ?_ _|refine qah ?_|refine qaf ?_ _));refine blk_far ?_ h0_ _;(with_reducible repeat(first|refine qag ?_ _|refine qah ?_|refine qaf ?_ _));refine blk_far ?_ h0_ _;(with_reducible repeat(first|refine qag ?_ _|refine qah ?_|refine qaf ?_ _));refine blk_far ?_ h0_ _;(with_reducible repeat(first|refine qag ?_ _|refine qah ?_|refine qaf ?_ _));exact h1_) : p_ := r_ h0_.out h1_.out
theorem za8 {p_ : Prop} (r_ : p_ := by first|(with_reducible assumption)|assumption) : p_ := r_
theorem za9 {p_ : Prop} (r_ : p_ := by first|rfl|(simp[qaw,qav]<;>rfl)|(simp[*,qaw,qav]<;>rfl)) : p_ := r_
theorem za10 {p_ q0_ : Prop} (h0_ : qal q0_) (r_ : q0_ → p_ := by intro h0_; (with_reducible repeat(first|apply Kd.S_alloc|apply Kd.S_drewN|apply Kd.S_drew));exact h0_) : p_ := r_ h0_.out
theorem za11 {p_ q0_ q1_ q2_ q3_ q4_ : Prop} (h0_ : qal q0_) (h1_ : qal q1_) (h2_ : qal q2_) (h3_ : qal q3_) (h4_ : qal q4_) (r_ : q0_ → q1_ → q2_ → q3_ → q4_ → p_ := by intro h0_ h1_ h2_ h3_ h4_; repeat(first|(with_reducible first|exact h0_|apply qar|apply qap|apply qaq|refine qam ?_ h1_|refine qam ?_ h2_|refine qam ?_ h3_|refine qam ?_ h4_)|exact h0_)) : p_ := r_ h0_.out h1_.out h2_.out h3_.out h4_.out
theorem za12 {p_ q0_ : Prop} (h0_ : qal q0_) (r_ : q0_ → p_ := by intro h0_; repeat(first|(with_reducible first|exact h0_|apply KeepBut.set_|apply keep_drewN|apply keep_drew|apply keep_alloc)|exact h0_)) : p_ := r_ h0_.out
theorem za13 {p_ q0_ q1_ q2_ : Prop} (h0_ : qal q0_) (h1_ : qal q1_) (h2_ : qal q2_) (r_ : q0_ → q1_ → q2_ → p_ := by intro h0_ h1_ h2_; repeat(first|(with_reducible first|exact h0_|apply KeepBut.set_|apply keep_drewN|apply keep_drew|apply keep_alloc|refine keep_far ?_ h1_ _|refine keep_far ?_ h2_ _)|exact h0_)) : p_ := r_ h0_.out h1_.out h2_.out
theorem za14 {p_ q0_ q1_ : Prop} (h0_ : qal q0_) (h1_ : qal q1_) (r_ : q0_ → q1_ → p_ := by intro h0_ h1_; (with_reducible repeat(first|refine qag ?_ _|refine qah ?_|refine qaf ?_ _));refine blk_far ?_ h0_ _;(with_reducible repeat(first|refine qag ?_ _|refine qah ?_|refine qaf ?_ _));exact h1_) : p_ := r_ h0_.out h1_.out
theorem za15 {p_ q0_ q1_ : Prop} (h0_ : qal q0_) (h1_ : qal q1_) (r_ : q0_ → q1_ → p_ := by intro h0_ h1_; repeat(first|(with_reducible first|exact h0_|apply KeepBut.set_|apply keep_drewN|apply keep_drew|apply keep_alloc|refine keep_far ?_ h1_ _)|exact h0_)) : p_ := r_ h0_.out h1_.out
theorem za16 {p_ q0_ : Prop} (h0_ : qal q0_) (r_ : q0_ → p_ := by intro h0_; (with_reducible repeat(first|apply Kd.Q_alloc|apply Kd.Q_drewN|apply Kd.Q_drew));exact h0_) : p_ := r_ h0_.out
theorem za17 {p_ q0_ q1_ : Prop} (h0_ : qal q0_) (h1_ : qal q1_) (r_ : q0_ → q1_ → p_ := by intro h0_ h1_; (with_reducible repeat(first|refine qag ?_ _|refine qah ?_|refine qaf ?_ _));refine blk_far ?_ h0_ _;(with_reducible repeat(first|refine qag ?_ _|refine qah ?_|refine qaf ?_ _));refine blk_far ?_ h0_ _;(with_reducible repeat(first|refine qag ?_ _|refine qah ?_|refine qaf ?_ _));refine blk_far ?_ h0_ _;(with_reducible repeat(first|refine qag ?_ _|refine qah ?_|refine qaf ?_ _));refine blk_far ?_ h0_ _;(with_reducible repeat(first|refine qag ?_ _|refine qah ?_|refine qaf ?_ _));refine blk_far ?_ h0_ _;(with_reducible repeat(first|refine qag ?_ _|refine qah ?_|refine qaf ?_ _));exact h1_) : p_ := r_ h0_.out h1_.out
theorem za22 {p_ : Prop} (r_ : p_ := by first|rfl|(simp;done)|(simp[*];done)) : p_ := r_
theorem za43 {p_ q0_ q1_ q2_ q3_ : Prop} (h0_ : qal q0_) (h1_ : qal q1_) (h2_ : qal q2_) (h3_ : qal q3_) (r_ : q0_ → q1_ → q2_ → q3_ → p_ := by intro h0_ h1_ h2_ h3_; repeat(first|(with_reducible first|exact h0_|apply KeepBut.set_|apply keep_drewN|apply keep_drew|apply keep_alloc|refine keep_far ?_ h1_ _|refine keep_far ?_ h2_ _|refine keep_far ?_ h3_ _)|exact h0_)) : p_ := r_ h0_.out h1_.out h2_.out h3_.out
theorem za44 {p_ : Prop} (r_ : p_ := by repeat(first|exact Drawn0.refl _|apply Drawn0.step)) : p_ := r_
theorem za45 {p_ q0_ : Prop} (h0_ : qal q0_) (r_ : q0_ → p_ := by intro h0_; (with_reducible repeat(first|apply Kd.V_alloc|apply Kd.V_drewN|apply Kd.V_drew));exact h0_) : p_ := r_ h0_.out
theorem za46 {p_ : Prop} (r_ : p_ := by first|omega|exact Nat.le_refl _) : p_ := r_
theorem za47 {p_ : Prop} (r_ : p_ := by first|exact Kd.R_nil _ _ _ _ _|exact Kd.N_nil _ _ _ _ _|exact Kd.V_nil _ _ _ _ _|exact Kd.Q_nil _ _ _ _ _|exact Kd.S_nil _ _ _ _ _) : p_ := r_
theorem za48 {p_ : Prop} (r_ : p_ := by first|exact Kd.S_nil _ _ _ _ _|exact Kd.N_nil _ _ _ _ _|exact Kd.V_nil _ _ _ _ _|exact Kd.Q_nil _ _ _ _ _|exact Kd.R_nil _ _ _ _ _) : p_ := r_
theorem za49 {p_ q0_ : Prop} (h0_ : qal q0_) (r_ : q0_ → p_ := by intro h0_; repeat(first|(with_reducible first|exact h0_|apply Kept.alloc|apply Kept.drewN|apply Kept.drew)|exact h0_)) : p_ := r_ h0_.out
end Go.Proofs.Ytjccnaklodbbfaa.Print
