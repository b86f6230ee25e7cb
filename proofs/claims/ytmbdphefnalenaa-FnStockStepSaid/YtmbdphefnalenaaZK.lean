-- Written by squeeze.py: not trusted, Lean checks it.
import Derived.Test.YtmbdphefnalenaaZW0
namespace Go.Proofs.Ytmbdphefnalenaa.Print
open Go.RowKit Go.Proofs.YtmbdphefnalenaaW.PrintWords Go.Proofs.YtmbdphefnalenaaW.PrintLast Go.Proofs.YtmbdphefnalenaaW.PrintMore
attribute [local go_sem] max2_int min2_int max_two min_two max_three min_three max_four min_four
set_option linter.unusedVariables false
set_option linter.unusedSimpArgs false
def errW : Option Int → Value
  | none => .nilIface
  | some c => .iface 0 (.int .i64 c)
theorem qan : errW none = .nilIface := rfl
theorem qao (c : Int) : errW (some c) = .iface 0 (.int .i64 c) := rfl
def anyO {α : Type} (p : α → Option Bool) : List α → Option Bool
  | [] => some false
  | x :: xs => (p x).bind fun b => if b = true then some true else anyO p xs
theorem anyO_cons {α : Type} {p : α → Option Bool} {x : α} {xs : List α} {r : Bool} (h : anyO p (x :: xs) = some r) : ∃ b, p x = some b ∧ ((b = true ∧ r = true) ∨ (b = false ∧ anyO p xs = some r)) := by
  simp only [anyO] at h
  obtain ⟨b, hb, h⟩ := Option.bind_eq_some_iff.mp h
  refine ⟨b, hb, ?_⟩
  cases b with
  | true => rw [if_pos rfl] at h; injection h with h; exact .inl ⟨rfl, h.symm⟩
  | false => rw [if_neg (by decide)] at h; exact .inr ⟨rfl, h⟩
def IdxQ (r : Bool) (w : World) (e : Ending) (w' : World) : Prop := ∃ i : Int, e = .returned (.int .i64 i) ∧ decide (0 ≤ i) = r ∧ Drawn0 w w'
def IdxB (r : Bool) (w : World) (e : Ending) (w' : World) : Prop := ∃ i : Int, e = .returned (.int .i64 i) ∧ decide (0 ≤ i) = r ∧ Below w.heap.size w w'
theorem anyO_mono {α : Type} {p q : α → Option Bool} (h : ∀ x, LeO (p x) (q x)) : ∀ l, LeO (anyO p l) (anyO q l)
  | [] => LeO.refl _
  | x :: xs => LeO.bind (h x) (fun b => LeO.ite (LeO.refl _) (anyO_mono h xs))
theorem info3 : (Try.prog.info? 3).map (fun i => (i.zero, i.size, i.bytes)) = some (some (.int .i64 0), 1, 8) := by kernel_rfl
theorem info5 : (Try.prog.info? 5).map (fun i => (i.zero, i.size, i.bytes)) = some (some (.int .u8 0), 1, 1) := by kernel_rfl
theorem info32 : (Try.prog.info? 32).map (fun i => (i.zero, i.size, i.bytes)) = some (some (.agg #[(.int .i64 0), (.int .i64 0), (.slice none 0 0)]), 3, 40) := by kernel_rfl
theorem info49 : (Try.prog.info? 49).map (fun i => (i.zero, i.size, i.bytes)) = some (some (.agg #[(.int .i64 0), (.int .i64 0)]), 2, 16) := by kernel_rfl
structure S32 where
  f0 : Int
  f1 : Int
  f2 : (List Int)
def z32 : S32 := ⟨(0 : Int), (0 : Int), ([] : List Int)⟩
def k32 : Kd S32 := Kd.iso (Kd.pair (Kd.int .i64) (Kd.pair (Kd.int .i64) (Kd.slice 3 (Kd.int .i64)))) (fun x : S32 => (x.f0, x.f1, x.f2))
theorem k32_open {w : World} {x : S32} {cs : List Value} (h : k32.K w x cs) : ∃ A2 c2, cs = [.int .i64 x.f0, .int .i64 x.f1, .slice A2 x.f2.length c2] ∧ x.f2.length ≤ c2 ∧ (Kd.int .i64).C w A2 x.f2.length x.f2 := by
  obtain ⟨_, _, rfl, rfl, ⟨_, _, rfl, rfl, ⟨A2, c2, rfl, l2, g2⟩⟩⟩ := h
  exact ⟨A2, c2, rfl, l2, g2⟩
theorem k32_mkM (w : World) (base : Nat) (ok : Nat → Prop) (x : S32) {v2 : Value} (g2 : (Kd.int .i64).R 3 w base ok v2 x.f2) : k32.M w base ok x [.int .i64 x.f0, .int .i64 x.f1, v2] := ⟨[.int .i64 x.f0], [.int .i64 x.f1, v2], rfl, rfl, ⟨[.int .i64 x.f1], [v2], rfl, rfl, ⟨v2, rfl, g2⟩⟩⟩
def rd_T32 (xs : List S32) (i : Int) : S32 := xs.getD i.toNat z32
theorem at_T32 {w : World} {A : Option Addr} {n : Nat} {xs : List S32} (h : Kd.C k32 w A n xs) (i : Int) (h0 : 0 ≤ i) (h1 : i < n) : ∃ ad A2 c2, A = some ad ∧ w.cell? (ad.add (i.toNat * 3)) = some (.int .i64 (rd_T32 xs i).f0) ∧ w.cell? ⟨(ad.add (i.toNat * 3)).block, (ad.add (i.toNat * 3)).off + 1, none⟩ = some (.int .i64 (rd_T32 xs i).f1) ∧ w.cell? ⟨(ad.add (i.toNat * 3)).block, (ad.add (i.toNat * 3)).off + 2, none⟩ = some (.slice A2 (rd_T32 xs i).f2.length c2) ∧ (rd_T32 xs i).f2.length ≤ c2 ∧ (Kd.int .i64).C w A2 (rd_T32 xs i).f2.length (rd_T32 xs i).f2 := by
  obtain ⟨ad, c, e, _, hK, hc0⟩ := Kd.C_get h z32 i h0 h1
  have hc : ∀ j u, c[j]? = some u → w.cell? (ad.add (i.toNat * 3 + j)) = some u := hc0
  obtain ⟨A2, c2, rfl, l2, g2⟩ := k32_open hK
  exact ⟨ad, A2, c2, e, hc 0 _ rfl, by rw [← add_field _ _ 1 (by omega)]; exact hc 1 _ rfl, by rw [← add_field _ _ 2 (by omega)]; exact hc 2 _ rfl, l2, g2⟩
structure S49 where
  f0 : Int
  f1 : Int
def z49 : S49 := ⟨(0 : Int), (0 : Int)⟩
def k49 : Kd S49 := Kd.iso (Kd.pair (Kd.int .i64) (Kd.int .i64)) (fun x : S49 => (x.f0, x.f1))
theorem k49_open {w : World} {x : S49} {cs : List Value} (h : k49.K w x cs) : cs = [.int .i64 x.f0, .int .i64 x.f1] := by
  obtain ⟨_, _, rfl, rfl, rfl⟩ := h
  exact rfl
theorem k49_openM {w : World} {base : Nat} {ok : Nat → Prop} {x : S49} {cs : List Value} (h : k49.M w base ok x cs) : cs = [.int .i64 x.f0, .int .i64 x.f1] := by
  obtain ⟨_, _, rfl, rfl, rfl⟩ := h
  exact rfl
theorem k49_mkM (w : World) (base : Nat) (ok : Nat → Prop) (x : S49)  : k49.M w base ok x [.int .i64 x.f0, .int .i64 x.f1] := ⟨[.int .i64 x.f0], [.int .i64 x.f1], rfl, rfl, rfl⟩
def rd_T49 (xs : List S49) (i : Int) : S49 := xs.getD i.toNat z49
theorem at_T49 {w : World} {A : Option Addr} {n : Nat} {xs : List S49} (h : Kd.C k49 w A n xs) (i : Int) (h0 : 0 ≤ i) (h1 : i < n) : ∃ ad , A = some ad ∧ w.cell? (ad.add (i.toNat * 2)) = some (.int .i64 (rd_T49 xs i).f0) ∧ w.cell? ⟨(ad.add (i.toNat * 2)).block, (ad.add (i.toNat * 2)).off + 1, none⟩ = some (.int .i64 (rd_T49 xs i).f1) := by
  obtain ⟨ad, c, e, _, hK, hc0⟩ := Kd.C_get h z49 i h0 h1
  have hc : ∀ j u, c[j]? = some u → w.cell? (ad.add (i.toNat * 2 + j)) = some u := hc0
  obtain rfl := k49_open hK
  exact ⟨ad, e, hc 0 _ rfl, by rw [← add_field _ _ 1 (by omega)]; exact hc 1 _ rfl⟩
structure S116 where
  f0 : Int
  f1 : Int
def k116 : Kd S116 := Kd.iso (Kd.pair (Kd.int .i64) (Kd.int .i64)) (fun x : S116 => (x.f0, x.f1))
theorem k116_mk (w : World) (x : S116)  : k116.K w x [.int .i64 x.f0, .int .i64 x.f1] := ⟨[.int .i64 x.f0], [.int .i64 x.f1], rfl, rfl, rfl⟩
structure S54 where
  f0 : Int
  f1 : Int
  f2 : (List Int)
def k54 : Kd S54 := Kd.iso (Kd.pair (Kd.int .i64) (Kd.pair (Kd.int .i64) (Kd.slice 3 (Kd.int .i64)))) (fun x : S54 => (x.f0, x.f1, x.f2))
theorem k54_mk (w : World) (x : S54) {A2 : Option Addr} {c2 : Nat} (l2 : x.f2.length ≤ c2) (g2 : (Kd.int .i64).C w A2 x.f2.length x.f2) : k54.K w x [.int .i64 x.f0, .int .i64 x.f1, .slice A2 x.f2.length c2] := ⟨[.int .i64 x.f0], [.int .i64 x.f1, .slice A2 x.f2.length c2], rfl, rfl, ⟨[.int .i64 x.f1], [.slice A2 x.f2.length c2], rfl, rfl, ⟨A2, c2, rfl, l2, g2⟩⟩⟩
theorem zB {W0 W1 : World} {g : Nat} {o : Obj} (h : qae (W0.heap[g]? = some o)) (r_ : W0.heap[g]? = some o → W1.heap[g]? = some o := by intro h_; (with_reducible repeat (first | refine qac ?_ _ | refine qaa ?_ | refine qab ?_ _)); exact h_) : W1.heap[g]? = some o := r_ h.out
theorem zY {W0 W1 w' : World} {g : Nat} {o : Obj} (h : qae (W0.heap[g]? = some o)) (hb : Below W1.heap.size W1 w') (r_ : W0.heap[g]? = some o → W1.heap[g]? = some o := by intro h_; (with_reducible repeat (first | refine qac ?_ _ | refine qaa ?_ | refine qab ?_ _)); exact h_) : qae (w'.heap[g]? = some o) := ⟨qat (r_ h.out) hb⟩
theorem zL {W0 W1 : World} {g g' : Nat} {o : Obj} (h : qae (W0.heap[g]? = some o)) (hg : g' = W1.heap.size) (r_ : W0.heap[g]? = some o → W1.heap[g]? = some o := by intro h_; (with_reducible repeat (first | refine qac ?_ _ | refine qaa ?_ | refine qab ?_ _)); exact h_) : qae (g ≠ g') := ⟨by rw [hg]; exact Nat.ne_of_lt (blk_lt (r_ h.out))⟩
theorem zG {W0 W1 : World} {g g' : Nat} {o : Obj} (h : qae (W0.heap[g]? = some o)) (hg : g' = W1.heap.size) (r_ : W0.heap[g]? = some o → W1.heap[g]? = some o := by intro h_; (with_reducible repeat (first | refine qac ?_ _ | refine qaa ?_ | refine qab ?_ _)); exact h_) : qae (g' ≠ g) := ⟨Ne.symm (zL h hg r_).out⟩
theorem zH {w W : World} {g : Nat} (hg : g = W.heap.size) (h : Below w.heap.size w W) : qae (w.heap.size ≤ g) := ⟨by rw [hg]; exact below_size h⟩
theorem zR {α : Type} {d : Kd α} {A : Option Addr} {n : Nat} {l : List α} {w W0 W1 : World} (h : qae (Kd.C d w A n l)) (hb : qae (Below w.heap.size w W0)) (r_ : Kd.C d W0 A n l → Kd.C d W1 A n l := by intro h_; repeat (first | exact h_ | (with_reducible refine Kd.C_alloc ?_ _) | (with_reducible refine Kd.C_drewN ?_ _) | (with_reducible refine Kd.C_drew ?_))) : Kd.C d W1 A n l := r_ (Kd.C_below h.out hb.out)
section
variable {P : Program} {ops : Array Oper} {rest : List Oper} {o : Oper} {a : Act} {Q : Exit → Act → World → Prop}
theorem zX {W : World} {N : Tmp} {cs : Array Value} {t : TypeId} (h : ∀ g, g = W.heap.size → ∀ w1, w1.heap[g]? = some (.cells cs t (0, 0)) → Below W.heap.size W w1 → wpList P ops Q rest (a.put o.dst (.pointer (some ⟨g, 0, none⟩))) w1) (hd : o.dst = some N := by rfl) (hgd : o.guard = none := by rfl) (hrun : (execOp a.eval o).run P W = .ok (.value (.pointer (some ⟨W.heap.size, 0, none⟩))) (W.alloc (.cells cs t (0, 0))) := by first | (go_simp; done) | (go_simp; rfl)) : wpList P ops Q (o :: rest) a W := box_event hgd hd hrun h
theorem zF {w : World} (N : Option Tmp) {f : FuncId} {fn : Func} (hf : P.funcs[f]? = some fn) {as_ : Array Operand} {ts : Array TypeId} (args : Array Value) (h : Calls P f args w fun e w' => ∃ v, e = .returned v ∧ wpList P ops Q rest (a.put N v) w') (hd : o.dst = N := by rfl) (hg : o.guard = none := by rfl) (hname : (fn.name == "runtime.NumGoroutine") = false := by kernel_rfl) (hb : fn.body.isSome = true := by rfl) (hop : o.op = .call { callee := .value (.func f), args := as_, argTypes := ts } := by rfl) (hargs : as_.map a.eval = args := by (try simp only [List.map_toArray, List.map_cons, List.map_nil]); first | done | rfl | (simp only [List.length_drop, List.length_take]; rfl)) : wpList P ops Q (o :: rest) a w := goesL_ N hd hg hf hname hb args hop hargs h
end
theorem zC1 {w : World} {g t : Nat} {v0 : Value} (h : qae (w.heap[g]? = some (.cells #[v0] t (0, 0)))) : w.cell? ⟨g, 0, none⟩ = some v0 ∧ w.frozen? ⟨g, 0, none⟩ = false := ⟨(qaf h.out 0).trans rfl, blk_frozen h.out 0⟩
theorem zC2 {w : World} {g t : Nat} {v0 v1 : Value} (h : qae (w.heap[g]? = some (.cells #[v0, v1] t (0, 0)))) : w.cell? ⟨g, 0, none⟩ = some v0 ∧ w.cell? ⟨g, 1, none⟩ = some v1 ∧ w.frozen? ⟨g, 0, none⟩ = false ∧ w.frozen? ⟨g, 1, none⟩ = false := ⟨(qaf h.out 0).trans rfl, (qaf h.out 1).trans rfl, blk_frozen h.out 0, blk_frozen h.out 1⟩
theorem zC3 {w : World} {g t : Nat} {v0 v1 v2 : Value} (h : qae (w.heap[g]? = some (.cells #[v0, v1, v2] t (0, 0)))) : w.cell? ⟨g, 0, none⟩ = some v0 ∧ w.cell? ⟨g, 1, none⟩ = some v1 ∧ w.cell? ⟨g, 2, none⟩ = some v2 ∧ w.frozen? ⟨g, 0, none⟩ = false ∧ w.frozen? ⟨g, 1, none⟩ = false ∧ w.frozen? ⟨g, 2, none⟩ = false := ⟨(qaf h.out 0).trans rfl, (qaf h.out 1).trans rfl, (qaf h.out 2).trans rfl, blk_frozen h.out 0, blk_frozen h.out 1, blk_frozen h.out 2⟩
theorem zC4 {w : World} {g t : Nat} {v0 v1 v2 v3 : Value} (h : qae (w.heap[g]? = some (.cells #[v0, v1, v2, v3] t (0, 0)))) : w.cell? ⟨g, 0, none⟩ = some v0 ∧ w.cell? ⟨g, 1, none⟩ = some v1 ∧ w.cell? ⟨g, 2, none⟩ = some v2 ∧ w.cell? ⟨g, 3, none⟩ = some v3 ∧ w.frozen? ⟨g, 0, none⟩ = false ∧ w.frozen? ⟨g, 1, none⟩ = false ∧ w.frozen? ⟨g, 2, none⟩ = false ∧ w.frozen? ⟨g, 3, none⟩ = false := ⟨(qaf h.out 0).trans rfl, (qaf h.out 1).trans rfl, (qaf h.out 2).trans rfl, (qaf h.out 3).trans rfl, blk_frozen h.out 0, blk_frozen h.out 1, blk_frozen h.out 2, blk_frozen h.out 3⟩
theorem zC5 {w : World} {g t : Nat} {v0 v1 v2 v3 v4 : Value} (h : qae (w.heap[g]? = some (.cells #[v0, v1, v2, v3, v4] t (0, 0)))) : w.cell? ⟨g, 0, none⟩ = some v0 ∧ w.cell? ⟨g, 1, none⟩ = some v1 ∧ w.cell? ⟨g, 2, none⟩ = some v2 ∧ w.cell? ⟨g, 3, none⟩ = some v3 ∧ w.cell? ⟨g, 4, none⟩ = some v4 ∧ w.frozen? ⟨g, 0, none⟩ = false ∧ w.frozen? ⟨g, 1, none⟩ = false ∧ w.frozen? ⟨g, 2, none⟩ = false ∧ w.frozen? ⟨g, 3, none⟩ = false ∧ w.frozen? ⟨g, 4, none⟩ = false := ⟨(qaf h.out 0).trans rfl, (qaf h.out 1).trans rfl, (qaf h.out 2).trans rfl, (qaf h.out 3).trans rfl, (qaf h.out 4).trans rfl, blk_frozen h.out 0, blk_frozen h.out 1, blk_frozen h.out 2, blk_frozen h.out 3, blk_frozen h.out 4⟩
theorem zC6 {w : World} {g t : Nat} {v0 v1 v2 v3 v4 v5 : Value} (h : qae (w.heap[g]? = some (.cells #[v0, v1, v2, v3, v4, v5] t (0, 0)))) : w.cell? ⟨g, 0, none⟩ = some v0 ∧ w.cell? ⟨g, 1, none⟩ = some v1 ∧ w.cell? ⟨g, 2, none⟩ = some v2 ∧ w.cell? ⟨g, 3, none⟩ = some v3 ∧ w.cell? ⟨g, 4, none⟩ = some v4 ∧ w.cell? ⟨g, 5, none⟩ = some v5 ∧ w.frozen? ⟨g, 0, none⟩ = false ∧ w.frozen? ⟨g, 1, none⟩ = false ∧ w.frozen? ⟨g, 2, none⟩ = false ∧ w.frozen? ⟨g, 3, none⟩ = false ∧ w.frozen? ⟨g, 4, none⟩ = false ∧ w.frozen? ⟨g, 5, none⟩ = false := ⟨(qaf h.out 0).trans rfl, (qaf h.out 1).trans rfl, (qaf h.out 2).trans rfl, (qaf h.out 3).trans rfl, (qaf h.out 4).trans rfl, (qaf h.out 5).trans rfl, blk_frozen h.out 0, blk_frozen h.out 1, blk_frozen h.out 2, blk_frozen h.out 3, blk_frozen h.out 4, blk_frozen h.out 5⟩
theorem zC7 {w : World} {g t : Nat} {v0 v1 v2 v3 v4 v5 v6 : Value} (h : qae (w.heap[g]? = some (.cells #[v0, v1, v2, v3, v4, v5, v6] t (0, 0)))) : w.cell? ⟨g, 0, none⟩ = some v0 ∧ w.cell? ⟨g, 1, none⟩ = some v1 ∧ w.cell? ⟨g, 2, none⟩ = some v2 ∧ w.cell? ⟨g, 3, none⟩ = some v3 ∧ w.cell? ⟨g, 4, none⟩ = some v4 ∧ w.cell? ⟨g, 5, none⟩ = some v5 ∧ w.cell? ⟨g, 6, none⟩ = some v6 ∧ w.frozen? ⟨g, 0, none⟩ = false ∧ w.frozen? ⟨g, 1, none⟩ = false ∧ w.frozen? ⟨g, 2, none⟩ = false ∧ w.frozen? ⟨g, 3, none⟩ = false ∧ w.frozen? ⟨g, 4, none⟩ = false ∧ w.frozen? ⟨g, 5, none⟩ = false ∧ w.frozen? ⟨g, 6, none⟩ = false := ⟨(qaf h.out 0).trans rfl, (qaf h.out 1).trans rfl, (qaf h.out 2).trans rfl, (qaf h.out 3).trans rfl, (qaf h.out 4).trans rfl, (qaf h.out 5).trans rfl, (qaf h.out 6).trans rfl, blk_frozen h.out 0, blk_frozen h.out 1, blk_frozen h.out 2, blk_frozen h.out 3, blk_frozen h.out 4, blk_frozen h.out 5, blk_frozen h.out 6⟩
theorem zC8 {w : World} {g t : Nat} {v0 v1 v2 v3 v4 v5 v6 v7 : Value} (h : qae (w.heap[g]? = some (.cells #[v0, v1, v2, v3, v4, v5, v6, v7] t (0, 0)))) : w.cell? ⟨g, 0, none⟩ = some v0 ∧ w.cell? ⟨g, 1, none⟩ = some v1 ∧ w.cell? ⟨g, 2, none⟩ = some v2 ∧ w.cell? ⟨g, 3, none⟩ = some v3 ∧ w.cell? ⟨g, 4, none⟩ = some v4 ∧ w.cell? ⟨g, 5, none⟩ = some v5 ∧ w.cell? ⟨g, 6, none⟩ = some v6 ∧ w.cell? ⟨g, 7, none⟩ = some v7 ∧ w.frozen? ⟨g, 0, none⟩ = false ∧ w.frozen? ⟨g, 1, none⟩ = false ∧ w.frozen? ⟨g, 2, none⟩ = false ∧ w.frozen? ⟨g, 3, none⟩ = false ∧ w.frozen? ⟨g, 4, none⟩ = false ∧ w.frozen? ⟨g, 5, none⟩ = false ∧ w.frozen? ⟨g, 6, none⟩ = false ∧ w.frozen? ⟨g, 7, none⟩ = false := ⟨(qaf h.out 0).trans rfl, (qaf h.out 1).trans rfl, (qaf h.out 2).trans rfl, (qaf h.out 3).trans rfl, (qaf h.out 4).trans rfl, (qaf h.out 5).trans rfl, (qaf h.out 6).trans rfl, (qaf h.out 7).trans rfl, blk_frozen h.out 0, blk_frozen h.out 1, blk_frozen h.out 2, blk_frozen h.out 3, blk_frozen h.out 4, blk_frozen h.out 5, blk_frozen h.out 6, blk_frozen h.out 7⟩
theorem za0 {p_ q0_ q1_ : Prop} (h0_ : qae q0_) (h1_ : qae q1_) (r_ : q0_ → q1_ → p_ := by intro h0_ h1_; (with_reducible repeat(first|refine qac ?_ _|refine qaa ?_|refine qab ?_ _));refine blk_far ?_ h0_ _;(with_reducible repeat(first|refine qac ?_ _|refine qaa ?_|refine qab ?_ _));refine blk_far ?_ h0_ _;(with_reducible repeat(first|refine qac ?_ _|refine qaa ?_|refine qab ?_ _));exact h1_) : p_ := r_ h0_.out h1_.out
theorem za1 {p_ q0_ q1_ : Prop} (h0_ : qae q0_) (h1_ : qae q1_) (r_ : q0_ → q1_ → p_ := by intro h0_ h1_; repeat(first|(with_reducible first|exact h0_|apply below_alloc|apply pw_below_drewN|apply qar|refine qas ?_ h1_)|exact h0_)) : p_ := r_ h0_.out h1_.out
theorem za2 {p_ q0_ : Prop} (h0_ : qae q0_) (r_ : q0_ → p_ := by intro h0_; (with_reducible repeat(first|apply Kd.R_alloc|apply Kd.R_drewN|apply Kd.R_drew));exact h0_) : p_ := r_ h0_.out
theorem za3 {p_ q0_ : Prop} (h0_ : qae q0_) (r_ : q0_ → p_ := by intro h0_; repeat(first|(with_reducible first|exact h0_|apply below_alloc|apply pw_below_drewN|apply qar)|exact h0_)) : p_ := r_ h0_.out
theorem za4 {p_ q0_ q1_ q2_ : Prop} (h0_ : qae q0_) (h1_ : qae q1_) (h2_ : qae q2_) (r_ : q0_ → q1_ → q2_ → p_ := by intro h0_ h1_ h2_; repeat(first|(with_reducible first|exact h0_|apply below_alloc|apply pw_below_drewN|apply qar|refine qas ?_ h1_|refine qas ?_ h2_)|exact h0_)) : p_ := r_ h0_.out h1_.out h2_.out
theorem za5 {p_ q0_ q1_ q2_ q3_ q4_ : Prop} (h0_ : qae q0_) (h1_ : qae q1_) (h2_ : qae q2_) (h3_ : qae q3_) (h4_ : qae q4_) (r_ : q0_ → q1_ → q2_ → q3_ → q4_ → p_ := by intro h0_ h1_ h2_ h3_ h4_; repeat(first|(with_reducible first|exact h0_|apply below_alloc|apply pw_below_drewN|apply qar|refine qas ?_ h1_|refine qas ?_ h2_|refine qas ?_ h3_|refine qas ?_ h4_)|exact h0_)) : p_ := r_ h0_.out h1_.out h2_.out h3_.out h4_.out
theorem za6 {p_ : Prop} (r_ : p_ := by first|(with_reducible assumption)|assumption) : p_ := r_
theorem za7 {p_ q0_ : Prop} (h0_ : qae q0_) (r_ : q0_ → p_ := by intro h0_; repeat(first|(with_reducible first|exact h0_|apply KeepBut.set_|apply keep_drewN|apply keep_drew|apply keep_alloc)|exact h0_)) : p_ := r_ h0_.out
theorem za8 {p_ q0_ q1_ q2_ : Prop} (h0_ : qae q0_) (h1_ : qae q1_) (h2_ : qae q2_) (r_ : q0_ → q1_ → q2_ → p_ := by intro h0_ h1_ h2_; repeat(first|(with_reducible first|exact h0_|apply KeepBut.set_|apply keep_drewN|apply keep_drew|apply keep_alloc|refine keep_far ?_ h1_ _|refine keep_far ?_ h2_ _)|exact h0_)) : p_ := r_ h0_.out h1_.out h2_.out
theorem za9 {p_ q0_ q1_ : Prop} (h0_ : qae q0_) (h1_ : qae q1_) (r_ : q0_ → q1_ → p_ := by intro h0_ h1_; repeat(first|(with_reducible first|exact h0_|apply KeepBut.set_|apply keep_drewN|apply keep_drew|apply keep_alloc|refine keep_far ?_ h1_ _)|exact h0_)) : p_ := r_ h0_.out h1_.out
theorem za14 {p_ q0_ q1_ q2_ q3_ : Prop} (h0_ : qae q0_) (h1_ : qae q1_) (h2_ : qae q2_) (h3_ : qae q3_) (r_ : q0_ → q1_ → q2_ → q3_ → p_ := by intro h0_ h1_ h2_ h3_; repeat(first|(with_reducible first|exact h0_|apply below_alloc|apply pw_below_drewN|apply qar|refine qas ?_ h1_|refine qas ?_ h2_|refine qas ?_ h3_)|exact h0_)) : p_ := r_ h0_.out h1_.out h2_.out h3_.out
theorem za15 {p_ q0_ : Prop} (h0_ : qae q0_) (r_ : q0_ → p_ := by intro h0_; (with_reducible repeat(first|apply Kd.Q_alloc|apply Kd.Q_drewN|apply Kd.Q_drew));exact h0_) : p_ := r_ h0_.out
theorem za20 {p_ q0_ q1_ : Prop} (h0_ : qae q0_) (h1_ : qae q1_) (r_ : q0_ → q1_ → p_ := by intro h0_ h1_; (with_reducible repeat(first|refine qac ?_ _|refine qaa ?_|refine qab ?_ _));refine blk_far ?_ h0_ _;(with_reducible repeat(first|refine qac ?_ _|refine qaa ?_|refine qab ?_ _));refine blk_far ?_ h0_ _;(with_reducible repeat(first|refine qac ?_ _|refine qaa ?_|refine qab ?_ _));refine blk_far ?_ h0_ _;(with_reducible repeat(first|refine qac ?_ _|refine qaa ?_|refine qab ?_ _));exact h1_) : p_ := r_ h0_.out h1_.out
theorem za21 {p_ q0_ : Prop} (h0_ : qae q0_) (r_ : q0_ → p_ := by intro h0_; (with_reducible repeat(first|refine qac ?_ _|refine qaa ?_|refine qab ?_ _));exact h0_) : p_ := r_ h0_.out
theorem za22 {p_ q0_ q1_ q2_ q3_ q4_ q5_ q6_ : Prop} (h0_ : qae q0_) (h1_ : qae q1_) (h2_ : qae q2_) (h3_ : qae q3_) (h4_ : qae q4_) (h5_ : qae q5_) (h6_ : qae q6_) (r_ : q0_ → q1_ → q2_ → q3_ → q4_ → q5_ → q6_ → p_ := by intro h0_ h1_ h2_ h3_ h4_ h5_ h6_; repeat(first|(with_reducible first|exact h0_|apply below_alloc|apply pw_below_drewN|apply qar|refine qas ?_ h1_|refine qas ?_ h2_|refine qas ?_ h3_|refine qas ?_ h4_|refine qas ?_ h5_|refine qas ?_ h6_)|exact h0_)) : p_ := r_ h0_.out h1_.out h2_.out h3_.out h4_.out h5_.out h6_.out
theorem za27 {p_ : Prop} (r_ : p_ := by first|rfl|(simp[qan,qao]<;>rfl)|(simp[*,qan,qao]<;>rfl)) : p_ := r_
theorem za35 {p_ q0_ : Prop} (h0_ : qae q0_) (r_ : q0_ → p_ := by intro h0_; (with_reducible repeat(first|apply Kd.S_alloc|apply Kd.S_drewN|apply Kd.S_drew));exact h0_) : p_ := r_ h0_.out
theorem za38 {p_ q0_ q1_ : Prop} (h0_ : qae q0_) (h1_ : qae q1_) (r_ : q0_ → q1_ → p_ := by intro h0_ h1_; (with_reducible repeat(first|refine qac ?_ _|refine qaa ?_|refine qab ?_ _));refine blk_far ?_ h0_ _;(with_reducible repeat(first|refine qac ?_ _|refine qaa ?_|refine qab ?_ _));exact h1_) : p_ := r_ h0_.out h1_.out
theorem za42 {p_ q0_ q1_ q2_ q3_ q4_ q5_ : Prop} (h0_ : qae q0_) (h1_ : qae q1_) (h2_ : qae q2_) (h3_ : qae q3_) (h4_ : qae q4_) (h5_ : qae q5_) (r_ : q0_ → q1_ → q2_ → q3_ → q4_ → q5_ → p_ := by intro h0_ h1_ h2_ h3_ h4_ h5_; repeat(first|(with_reducible first|exact h0_|apply below_alloc|apply pw_below_drewN|apply qar|refine qas ?_ h1_|refine qas ?_ h2_|refine qas ?_ h3_|refine qas ?_ h4_|refine qas ?_ h5_)|exact h0_)) : p_ := r_ h0_.out h1_.out h2_.out h3_.out h4_.out h5_.out
theorem za44 {p_ q0_ q1_ q2_ q3_ : Prop} (h0_ : qae q0_) (h1_ : qae q1_) (h2_ : qae q2_) (h3_ : qae q3_) (r_ : q0_ → q1_ → q2_ → q3_ → p_ := by intro h0_ h1_ h2_ h3_; repeat(first|(with_reducible first|exact h0_|apply KeepBut.set_|apply keep_drewN|apply keep_drew|apply keep_alloc|refine keep_far ?_ h1_ _|refine keep_far ?_ h2_ _|refine keep_far ?_ h3_ _)|exact h0_)) : p_ := r_ h0_.out h1_.out h2_.out h3_.out
theorem za45 {p_ q0_ : Prop} (h0_ : qae q0_) (r_ : q0_ → p_ := by intro h0_; (with_reducible repeat(first|apply Kd.V_alloc|apply Kd.V_drewN|apply Kd.V_drew));exact h0_) : p_ := r_ h0_.out
theorem za46 {p_ : Prop} (r_ : p_ := by first|rfl|(simp;done)|(simp[*];done)) : p_ := r_
theorem za47 {p_ : Prop} (r_ : p_ := by first|exact Kd.R_nil _ _ _ _ _|exact Kd.N_nil _ _ _ _ _|exact Kd.V_nil _ _ _ _ _|exact Kd.Q_nil _ _ _ _ _|exact Kd.S_nil _ _ _ _ _) : p_ := r_
theorem za48 {p_ : Prop} (r_ : p_ := by first|omega|exact Nat.le_refl _) : p_ := r_
theorem za49 {p_ : Prop} (r_ : p_ := by repeat(first|exact Drawn0.refl _|apply Drawn0.step)) : p_ := r_
theorem za50 {p_ q0_ : Prop} (h0_ : qae q0_) (r_ : q0_ → p_ := by intro h0_; repeat(first|(with_reducible first|exact h0_|apply Kept.alloc|apply Kept.drewN|apply Kept.drew)|exact h0_)) : p_ := r_ h0_.out
end Go.Proofs.Ytmbdphefnalenaa.Print
