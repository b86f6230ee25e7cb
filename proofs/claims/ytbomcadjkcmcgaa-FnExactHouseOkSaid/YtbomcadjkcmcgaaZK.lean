-- Written by squeeze.py, a program of this session, out of what print.sh and myprint.py had printed: cut to what is used, narrowed. Not trusted, Lean checks it.
import Derived.Test.YtbomcadjkcmcgaaZW0
namespace Go.Proofs.Ytbomcadjkcmcgaa.Print
open Go.RowKit Go.Proofs.YtbomcadjkcmcgaaW.PrintWords Go.Proofs.YtbomcadjkcmcgaaW.PrintLast Go.Proofs.YtbomcadjkcmcgaaW.PrintMore
attribute [local go_sem] max2_int min2_int max_two min_two max_three min_three max_four min_four
set_option linter.unusedVariables false
set_option linter.unusedSimpArgs false
def errW : Option Int → Value
  | none => .nilIface
  | some c => .iface 0 (.int .i64 c)
theorem qaq : errW none = .nilIface := rfl
theorem qar (c : Int) : errW (some c) = .iface 0 (.int .i64 c) := rfl
def anyO {α : Type} (p : α → Option Bool) : List α → Option Bool
  | [] => some false
  | x :: xs => (p x).bind fun b => if b = true then some true else anyO p xs
theorem anyO_cons {α : Type} {p : α → Option Bool} {x : α} {xs : List α} {r : Bool} (h : anyO p (x :: xs) = some r) : ∃ b, p x = some b ∧ ((b = true ∧ r = true) ∨ (b = false ∧ anyO p xs = some r)) := by
  simp only [anyO] at h
  obtain ⟨b, hb, h⟩ := Option.bind_eq_some_iff.mp h
  refine ⟨b, hb, ?_⟩
  cases b with
  | true => rw [if_pos rfl] at h; injection h with h; exact .inl ⟨rfl, h.symm⟩
  | false => rw [if_neg (by decide)] at h; exact .inr ⟨rfl, h⟩
def IdxQ (r : Bool) (w : World) (e : Ending) (w' : World) : Prop := ∃ i : Int, e = .returned (.int .i64 i) ∧ decide (0 ≤ i) = r ∧ Drawn0 w w'
def IdxB (r : Bool) (w : World) (e : Ending) (w' : World) : Prop := ∃ i : Int, e = .returned (.int .i64 i) ∧ decide (0 ≤ i) = r ∧ Below w.heap.size w w'
theorem anyO_mono {α : Type} {p q : α → Option Bool} (h : ∀ x, LeO (p x) (q x)) : ∀ l, LeO (anyO p l) (anyO q l)
  | [] => LeO.refl _
  | x :: xs => LeO.bind (h x) (fun b => LeO.ite (LeO.refl _) (anyO_mono h xs))
theorem info3 : (Try.prog.info? 3).map (fun i => (i.zero, i.size, i.bytes)) = some (some (.int .i64 0), 1, 8) := by kernel_rfl
theorem info62 : (Try.prog.info? 62).map (fun i => (i.zero, i.size, i.bytes)) = some (some (.agg #[(.int .i64 0), (.int .i64 0), (.slice none 0 0)]), 3, 40) := by kernel_rfl
theorem info72 : (Try.prog.info? 72).map (fun i => (i.zero, i.size, i.bytes)) = some (some (.agg #[(.int .i64 0), (.int .i64 0)]), 2, 16) := by kernel_rfl
structure S75 where
  f0 : Int
  f1 : Int
  f2 : (List Int)
def z75 : S75 := ⟨(0 : Int), (0 : Int), ([] : List Int)⟩
def k75 : Kd S75 := Kd.iso (Kd.pair (Kd.int .i64) (Kd.pair (Kd.int .i64) (Kd.slice 3 (Kd.int .i64)))) (fun x : S75 => (x.f0, x.f1, x.f2))
theorem k75_open {w : World} {x : S75} {cs : List Value} (h : k75.K w x cs) : ∃ A2 c2, cs = [.int .i64 x.f0, .int .i64 x.f1, .slice A2 x.f2.length c2] ∧ x.f2.length ≤ c2 ∧ (Kd.int .i64).C w A2 x.f2.length x.f2 := by
  obtain ⟨_, _, rfl, rfl, ⟨_, _, rfl, rfl, ⟨A2, c2, rfl, l2, g2⟩⟩⟩ := h
  exact ⟨A2, c2, rfl, l2, g2⟩
theorem k75_mk (w : World) (x : S75) {A2 : Option Addr} {c2 : Nat} (l2 : x.f2.length ≤ c2) (g2 : (Kd.int .i64).C w A2 x.f2.length x.f2) : k75.K w x [.int .i64 x.f0, .int .i64 x.f1, .slice A2 x.f2.length c2] := ⟨[.int .i64 x.f0], [.int .i64 x.f1, .slice A2 x.f2.length c2], rfl, rfl, ⟨[.int .i64 x.f1], [.slice A2 x.f2.length c2], rfl, rfl, ⟨A2, c2, rfl, l2, g2⟩⟩⟩
def rd_T75 (xs : List S75) (i : Int) : S75 := xs.getD i.toNat z75
theorem at_T75 {w : World} {A : Option Addr} {n : Nat} {xs : List S75} (h : Kd.C k75 w A n xs) (i : Int) (h0 : 0 ≤ i) (h1 : i < n) : ∃ ad A2 c2, A = some ad ∧ w.cell? (ad.add (i.toNat * 3)) = some (.int .i64 (rd_T75 xs i).f0) ∧ w.cell? ⟨(ad.add (i.toNat * 3)).block, (ad.add (i.toNat * 3)).off + 1, none⟩ = some (.int .i64 (rd_T75 xs i).f1) ∧ w.cell? ⟨(ad.add (i.toNat * 3)).block, (ad.add (i.toNat * 3)).off + 2, none⟩ = some (.slice A2 (rd_T75 xs i).f2.length c2) ∧ (rd_T75 xs i).f2.length ≤ c2 ∧ (Kd.int .i64).C w A2 (rd_T75 xs i).f2.length (rd_T75 xs i).f2 := by
  obtain ⟨ad, c, e, _, hK, hc0⟩ := Kd.C_get h z75 i h0 h1
  have hc : ∀ j u, c[j]? = some u → w.cell? (ad.add (i.toNat * 3 + j)) = some u := hc0
  obtain ⟨A2, c2, rfl, l2, g2⟩ := k75_open hK
  exact ⟨ad, A2, c2, e, hc 0 _ rfl, by rw [← add_field _ _ 1 (by omega)]; exact hc 1 _ rfl, by rw [← add_field _ _ 2 (by omega)]; exact hc 2 _ rfl, l2, g2⟩
structure S72 where
  f0 : Int
  f1 : Int
def z72 : S72 := ⟨(0 : Int), (0 : Int)⟩
def k72 : Kd S72 := Kd.iso (Kd.pair (Kd.int .i64) (Kd.int .i64)) (fun x : S72 => (x.f0, x.f1))
theorem k72_open {w : World} {x : S72} {cs : List Value} (h : k72.K w x cs) : cs = [.int .i64 x.f0, .int .i64 x.f1] := by
  obtain ⟨_, _, rfl, rfl, rfl⟩ := h
  exact rfl
theorem k72_openM {w : World} {base : Nat} {ok : Nat → Prop} {x : S72} {cs : List Value} (h : k72.M w base ok x cs) : cs = [.int .i64 x.f0, .int .i64 x.f1] := by
  obtain ⟨_, _, rfl, rfl, rfl⟩ := h
  exact rfl
theorem k72_mkM (w : World) (base : Nat) (ok : Nat → Prop) (x : S72)  : k72.M w base ok x [.int .i64 x.f0, .int .i64 x.f1] := ⟨[.int .i64 x.f0], [.int .i64 x.f1], rfl, rfl, rfl⟩
def rd_T72 (xs : List S72) (i : Int) : S72 := xs.getD i.toNat z72
theorem at_T72 {w : World} {A : Option Addr} {n : Nat} {xs : List S72} (h : Kd.C k72 w A n xs) (i : Int) (h0 : 0 ≤ i) (h1 : i < n) : ∃ ad , A = some ad ∧ w.cell? (ad.add (i.toNat * 2)) = some (.int .i64 (rd_T72 xs i).f0) ∧ w.cell? ⟨(ad.add (i.toNat * 2)).block, (ad.add (i.toNat * 2)).off + 1, none⟩ = some (.int .i64 (rd_T72 xs i).f1) := by
  obtain ⟨ad, c, e, _, hK, hc0⟩ := Kd.C_get h z72 i h0 h1
  have hc : ∀ j u, c[j]? = some u → w.cell? (ad.add (i.toNat * 2 + j)) = some u := hc0
  obtain rfl := k72_open hK
  exact ⟨ad, e, hc 0 _ rfl, by rw [← add_field _ _ 1 (by omega)]; exact hc 1 _ rfl⟩
structure S62 where
  f0 : Int
  f1 : Int
  f2 : (List Int)
def z62 : S62 := ⟨(0 : Int), (0 : Int), ([] : List Int)⟩
def k62 : Kd S62 := Kd.iso (Kd.pair (Kd.int .i64) (Kd.pair (Kd.int .i64) (Kd.slice 3 (Kd.int .i64)))) (fun x : S62 => (x.f0, x.f1, x.f2))
theorem k62_open {w : World} {x : S62} {cs : List Value} (h : k62.K w x cs) : ∃ A2 c2, cs = [.int .i64 x.f0, .int .i64 x.f1, .slice A2 x.f2.length c2] ∧ x.f2.length ≤ c2 ∧ (Kd.int .i64).C w A2 x.f2.length x.f2 := by
  obtain ⟨_, _, rfl, rfl, ⟨_, _, rfl, rfl, ⟨A2, c2, rfl, l2, g2⟩⟩⟩ := h
  exact ⟨A2, c2, rfl, l2, g2⟩
theorem k62_openM {w : World} {base : Nat} {ok : Nat → Prop} {x : S62} {cs : List Value} (h : k62.M w base ok x cs) : ∃ v2, cs = [.int .i64 x.f0, .int .i64 x.f1, v2] ∧ (Kd.int .i64).R 3 w base ok v2 x.f2 := by
  obtain ⟨_, _, rfl, rfl, ⟨_, _, rfl, rfl, ⟨v2, rfl, g2⟩⟩⟩ := h
  exact ⟨v2, rfl, g2⟩
theorem k62_mkM (w : World) (base : Nat) (ok : Nat → Prop) (x : S62) {v2 : Value} (g2 : (Kd.int .i64).R 3 w base ok v2 x.f2) : k62.M w base ok x [.int .i64 x.f0, .int .i64 x.f1, v2] := ⟨[.int .i64 x.f0], [.int .i64 x.f1, v2], rfl, rfl, ⟨[.int .i64 x.f1], [v2], rfl, rfl, ⟨v2, rfl, g2⟩⟩⟩
def rd_T62 (xs : List S62) (i : Int) : S62 := xs.getD i.toNat z62
theorem at_T62 {w : World} {A : Option Addr} {n : Nat} {xs : List S62} (h : Kd.C k62 w A n xs) (i : Int) (h0 : 0 ≤ i) (h1 : i < n) : ∃ ad A2 c2, A = some ad ∧ w.cell? (ad.add (i.toNat * 3)) = some (.int .i64 (rd_T62 xs i).f0) ∧ w.cell? ⟨(ad.add (i.toNat * 3)).block, (ad.add (i.toNat * 3)).off + 1, none⟩ = some (.int .i64 (rd_T62 xs i).f1) ∧ w.cell? ⟨(ad.add (i.toNat * 3)).block, (ad.add (i.toNat * 3)).off + 2, none⟩ = some (.slice A2 (rd_T62 xs i).f2.length c2) ∧ (rd_T62 xs i).f2.length ≤ c2 ∧ (Kd.int .i64).C w A2 (rd_T62 xs i).f2.length (rd_T62 xs i).f2 := by
  obtain ⟨ad, c, e, _, hK, hc0⟩ := Kd.C_get h z62 i h0 h1
  have hc : ∀ j u, c[j]? = some u → w.cell? (ad.add (i.toNat * 3 + j)) = some u := hc0
  obtain ⟨A2, c2, rfl, l2, g2⟩ := k62_open hK
  exact ⟨ad, A2, c2, e, hc 0 _ rfl, by rw [← add_field _ _ 1 (by omega)]; exact hc 1 _ rfl, by rw [← add_field _ _ 2 (by omega)]; exact hc 2 _ rfl, l2, g2⟩
theorem za0 {p_ q0_ : Prop} (h0_ : qam q0_) (r_ : q0_ → p_ := by intro h0_; (with_reducible repeat(first|refine qah ?_ _|refine qaf ?_|refine qag ?_ _));exact h0_) : p_ := r_ h0_.out
theorem za1 {p_ q0_ q1_ : Prop} (h0_ : qam q0_) (h1_ : qam q1_) (r_ : q0_ → q1_ → p_ := by intro h0_ h1_; repeat(first|(with_reducible first|exact h0_|apply below_alloc|apply pw_below_drewN|apply below_drew1|refine below_set ?_ h1_)|exact h0_)) : p_ := r_ h0_.out h1_.out
theorem za2 {p_ q0_ : Prop} (h0_ : qam q0_) (r_ : q0_ → p_ := by intro h0_; repeat(first|(with_reducible first|exact h0_|apply below_alloc|apply pw_below_drewN|apply below_drew1)|exact h0_)) : p_ := r_ h0_.out
theorem za3 {p_ q0_ q1_ q2_ : Prop} (h0_ : qam q0_) (h1_ : qam q1_) (h2_ : qam q2_) (r_ : q0_ → q1_ → q2_ → p_ := by intro h0_ h1_ h2_; repeat(first|(with_reducible first|exact h0_|apply below_alloc|apply pw_below_drewN|apply below_drew1|refine below_set ?_ h1_|refine below_set ?_ h2_)|exact h0_)) : p_ := r_ h0_.out h1_.out h2_.out
theorem za4 {p_ q0_ q1_ : Prop} (h0_ : qam q0_) (h1_ : qam q1_) (r_ : q0_ → q1_ → p_ := by intro h0_ h1_; (with_reducible repeat(first|refine qah ?_ _|refine qaf ?_|refine qag ?_ _));refine blk_far ?_ h0_ _;(with_reducible repeat(first|refine qah ?_ _|refine qaf ?_|refine qag ?_ _));refine blk_far ?_ h0_ _;(with_reducible repeat(first|refine qah ?_ _|refine qaf ?_|refine qag ?_ _));exact h1_) : p_ := r_ h0_.out h1_.out
theorem za5 {p_ q0_ q1_ q2_ q3_ : Prop} (h0_ : qam q0_) (h1_ : qam q1_) (h2_ : qam q2_) (h3_ : qam q3_) (r_ : q0_ → q1_ → q2_ → q3_ → p_ := by intro h0_ h1_ h2_ h3_; repeat(first|(with_reducible first|exact h0_|apply below_alloc|apply pw_below_drewN|apply below_drew1|refine below_set ?_ h1_|refine below_set ?_ h2_|refine below_set ?_ h3_)|exact h0_)) : p_ := r_ h0_.out h1_.out h2_.out h3_.out
theorem za6 {p_ : Prop} (r_ : p_ := by first|(with_reducible assumption)|assumption) : p_ := r_
theorem za7 {p_ q0_ q1_ q2_ q3_ q4_ : Prop} (h0_ : qam q0_) (h1_ : qam q1_) (h2_ : qam q2_) (h3_ : qam q3_) (h4_ : qam q4_) (r_ : q0_ → q1_ → q2_ → q3_ → q4_ → p_ := by intro h0_ h1_ h2_ h3_ h4_; repeat(first|(with_reducible first|exact h0_|apply below_alloc|apply pw_below_drewN|apply below_drew1|refine below_set ?_ h1_|refine below_set ?_ h2_|refine below_set ?_ h3_|refine below_set ?_ h4_)|exact h0_)) : p_ := r_ h0_.out h1_.out h2_.out h3_.out h4_.out
theorem za8 {p_ : Prop} (r_ : p_ := by first|rfl|(simp[qaq,qar]<;>rfl)|(simp[*,qaq,qar]<;>rfl)) : p_ := r_
theorem za9 {p_ q0_ : Prop} (h0_ : qam q0_) (r_ : q0_ → p_ := by intro h0_; (with_reducible repeat(first|apply Kd.R_alloc|apply Kd.R_drewN|apply Kd.R_drew));exact h0_) : p_ := r_ h0_.out
theorem za10 {p_ q0_ : Prop} (h0_ : qam q0_) (r_ : q0_ → p_ := by intro h0_; (with_reducible repeat(first|apply Kd.S_alloc|apply Kd.S_drewN|apply Kd.S_drew));exact h0_) : p_ := r_ h0_.out
theorem za11 {p_ : Prop} (r_ : p_ := by first|rfl|(simp;done)|(simp[*];done)) : p_ := r_
theorem za12 {p_ q0_ q1_ : Prop} (h0_ : qam q0_) (h1_ : qam q1_) (r_ : q0_ → q1_ → p_ := by intro h0_ h1_; (with_reducible repeat(first|refine qah ?_ _|refine qaf ?_|refine qag ?_ _));refine blk_far ?_ h0_ _;(with_reducible repeat(first|refine qah ?_ _|refine qaf ?_|refine qag ?_ _));refine blk_far ?_ h0_ _;(with_reducible repeat(first|refine qah ?_ _|refine qaf ?_|refine qag ?_ _));refine blk_far ?_ h0_ _;(with_reducible repeat(first|refine qah ?_ _|refine qaf ?_|refine qag ?_ _));refine blk_far ?_ h0_ _;(with_reducible repeat(first|refine qah ?_ _|refine qaf ?_|refine qag ?_ _));refine blk_far ?_ h0_ _;(with_reducible repeat(first|refine qah ?_ _|refine qaf ?_|refine qag ?_ _));exact h1_) : p_ := r_ h0_.out h1_.out
theorem za13 {p_ q0_ q1_ : Prop} (h0_ : qam q0_) (h1_ : qam q1_) (r_ : q0_ → q1_ → p_ := by intro h0_ h1_; (with_reducible repeat(first|refine qah ?_ _|refine qaf ?_|refine qag ?_ _));refine blk_far ?_ h0_ _;(with_reducible repeat(first|refine qah ?_ _|refine qaf ?_|refine qag ?_ _));exact h1_) : p_ := r_ h0_.out h1_.out
theorem za14 {p_ : Prop} (r_ : p_ := by repeat(first|exact Drawn0.refl _|apply Drawn0.step)) : p_ := r_
theorem za15 {p_ q0_ q1_ : Prop} (h0_ : qam q0_) (h1_ : qam q1_) (r_ : q0_ → q1_ → p_ := by intro h0_ h1_; (with_reducible repeat(first|refine qah ?_ _|refine qaf ?_|refine qag ?_ _));refine blk_far ?_ h0_ _;(with_reducible repeat(first|refine qah ?_ _|refine qaf ?_|refine qag ?_ _));refine blk_far ?_ h0_ _;(with_reducible repeat(first|refine qah ?_ _|refine qaf ?_|refine qag ?_ _));refine blk_far ?_ h0_ _;(with_reducible repeat(first|refine qah ?_ _|refine qaf ?_|refine qag ?_ _));exact h1_) : p_ := r_ h0_.out h1_.out
theorem za16 {p_ : Prop} (r_ : p_ := by first|exact Kd.R_nil _ _ _ _ _|exact Kd.N_nil _ _ _ _ _|exact Kd.V_nil _ _ _ _ _|exact Kd.Q_nil _ _ _ _ _|exact Kd.S_nil _ _ _ _ _) : p_ := r_
theorem za17 {p_ q0_ : Prop} (h0_ : qam q0_) (r_ : q0_ → p_ := by intro h0_; repeat(first|(with_reducible first|exact h0_|apply Kept.alloc|apply Kept.drewN|apply Kept.drew)|exact h0_)) : p_ := r_ h0_.out
end Go.Proofs.Ytbomcadjkcmcgaa.Print
