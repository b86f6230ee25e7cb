-- Written by squeeze.py: not trusted, Lean checks it.
import Derived.Test.YtbomcadjkcmcgaaZW0
namespace Go.Proofs.Ytbomcadjkcmcgaa.Print
open Go.RowKit Go.Proofs.YtbomcadjkcmcgaaW.PrintWords Go.Proofs.YtbomcadjkcmcgaaW.PrintLast Go.Proofs.YtbomcadjkcmcgaaW.PrintMore
attribute [local go_sem] max2_int min2_int max_two min_two max_three min_three max_four min_four
set_option linter.unusedVariables false
set_option linter.unusedSimpArgs false
def errW : Option Int → Value
  | none => .nilIface
  | some c => .iface 0 (.int .i64 c)
theorem qao : errW none = .nilIface := rfl
theorem qan (c : Int) : errW (some c) = .iface 0 (.int .i64 c) := rfl
def anyO {α : Type} (p : α → Option Bool) : List α → Option Bool
  | [] => some false
  | x :: xs => (p x).bind fun b => if b = true then some true else anyO p xs
theorem anyO_cons {α : Type} {p : α → Option Bool} {x : α} {xs : List α} {r : Bool} (h : anyO p (x :: xs) = some r) : ∃ b, p x = some b ∧ ((b = true ∧ r = true) ∨ (b = false ∧ anyO p xs = some r)) := by
  simp only [anyO] at h
  obtain ⟨b, hb, h⟩ := Option.bind_eq_some_iff.mp h
  refine ⟨b, hb, ?_⟩
  cases b with
  | true => rw [if_pos rfl] at h; injection h with h; exact .inl ⟨rfl, h.symm⟩
  | false => rw [if_neg (by decide)] at h; exact .inr ⟨rfl, h⟩
def IdxQ (r : Bool) (w : World) (e : Ending) (w' : World) : Prop := ∃ i : Int, e = .returned (.int .i64 i) ∧ decide (0 ≤ i) = r ∧ Drawn0 w w'
def IdxB (r : Bool) (w : World) (e : Ending) (w' : World) : Prop := ∃ i : Int, e = .returned (.int .i64 i) ∧ decide (0 ≤ i) = r ∧ Below w.heap.size w w'
theorem anyO_mono {α : Type} {p q : α → Option Bool} (h : ∀ x, LeO (p x) (q x)) : ∀ l, LeO (anyO p l) (anyO q l)
  | [] => LeO.refl _
  | x :: xs => LeO.bind (h x) (fun b => LeO.ite (LeO.refl _) (anyO_mono h xs))
def WideP (base : Nat) (E : List Nat) (W : World) (k : Nat) : Prop := base ≤ k ∧ ∃ q, q ∈ E ∧ ∃ cells, W.heap[k]? = some (.cells cells q (0, 0))
theorem WideP.not_blk {b : Nat} {E : List Nat} {W : World} {g t : Nat} {cs : Array Value} (hb : W.heap[g]? = some (.cells cs t (0, 0))) (ht : ∀ q, q ∈ E → q ≠ t) : ¬ WideP b E W g := by
  rintro ⟨_, q, hq, cells, hc⟩
  have he := Option.some.inj (hb.symm.trans hc)
  injection he with h1 h2 h3
  exact ht q hq h2.symm
theorem Kd.S_wide {α : Type} {d : Kd α} {e : Nat} {W : World} {base : Nat} {ok : Nat → Prop} {v : Value} {xs : List α} (h : Kd.S d e W base ok v xs) : Kd.S d e W base (WideP base (e :: d.E) W) v xs := Kd.S_mono (Kd.S_bound h) (fun k hk => ⟨hk.2.1, hk.2.2.2⟩)
theorem Kd.R_apartW {α : Type} {d : Kd α} {e b : Nat} {E : List Nat} {W : World} {base : Nat} {ok : Nat → Prop} {v : Value} {xs : List α} (h : Kd.R d e W base ok v xs) (ht : ∀ q, q ∈ e :: d.E → q ∉ E) : Kd.R d e W base (fun k => ok k ∧ ¬ WideP b E W k) v xs := Kd.R_mono (Kd.R_bound h) (fun k hk => ⟨hk.1, fun hw => by
  obtain ⟨_, _, _, q, hq, c, hc⟩ := hk
  obtain ⟨_, q', hq', c', hc'⟩ := hw
  have he := Option.some.inj (hc.symm.trans hc')
  injection he with h1 h2 h3
  exact ht q hq (h2 ▸ hq')⟩)
theorem info3 : (Try.prog.info? 3).map (fun i => (i.zero, i.size, i.bytes)) = some (some (.int .i64 0), 1, 8) := by kernel_rfl
theorem info62 : (Try.prog.info? 62).map (fun i => (i.zero, i.size, i.bytes)) = some (some (.agg #[(.int .i64 0), (.int .i64 0), (.slice none 0 0)]), 3, 40) := by kernel_rfl
theorem info72 : (Try.prog.info? 72).map (fun i => (i.zero, i.size, i.bytes)) = some (some (.agg #[(.int .i64 0), (.int .i64 0)]), 2, 16) := by kernel_rfl
structure S75 where
  f0 : Int
  f1 : Int
  f2 : (List Int)
def z75 : S75 := ⟨(0 : Int), (0 : Int), ([] : List Int)⟩
def k75 : Kd S75 := Kd.iso (Kd.pair (Kd.int .i64) (Kd.pair (Kd.int .i64) (Kd.slice 3 (Kd.int .i64)))) (fun x : S75 => (x.f0, x.f1, x.f2))
theorem k75_open {w : World} {x : S75} {cs : List Value} (h : k75.K w x cs) : ∃ A2 c2, cs = [.int .i64 x.f0, .int .i64 x.f1, .slice A2 x.f2.length c2] ∧ x.f2.length ≤ c2 ∧ (Kd.int .i64).C w A2 x.f2.length x.f2 := by
  obtain ⟨_, _, rfl, rfl, ⟨_, _, rfl, rfl, ⟨A2, c2, rfl, l2, g2⟩⟩⟩ := h
  exact ⟨A2, c2, rfl, l2, g2⟩
theorem k75_mk (w : World) (x : S75) {A2 : Option Addr} {c2 : Nat} (l2 : x.f2.length ≤ c2) (g2 : (Kd.int .i64).C w A2 x.f2.length x.f2) : k75.K w x [.int .i64 x.f0, .int .i64 x.f1, .slice A2 x.f2.length c2] := ⟨[.int .i64 x.f0], [.int .i64 x.f1, .slice A2 x.f2.length c2], rfl, rfl, ⟨[.int .i64 x.f1], [.slice A2 x.f2.length c2], rfl, rfl, ⟨A2, c2, rfl, l2, g2⟩⟩⟩
def rd_T75 (xs : List S75) (i : Int) : S75 := xs.getD i.toNat z75
theorem at_T75 {w : World} {A : Option Addr} {n : Nat} {xs : List S75} (h : Kd.C k75 w A n xs) (i : Int) (h0 : 0 ≤ i) (h1 : i < n) : ∃ ad A2 c2, A = some ad ∧ w.cell? (ad.add (i.toNat * 3)) = some (.int .i64 (rd_T75 xs i).f0) ∧ w.cell? ⟨(ad.add (i.toNat * 3)).block, (ad.add (i.toNat * 3)).off + 1, none⟩ = some (.int .i64 (rd_T75 xs i).f1) ∧ w.cell? ⟨(ad.add (i.toNat * 3)).block, (ad.add (i.toNat * 3)).off + 2, none⟩ = some (.slice A2 (rd_T75 xs i).f2.length c2) ∧ (rd_T75 xs i).f2.length ≤ c2 ∧ (Kd.int .i64).C w A2 (rd_T75 xs i).f2.length (rd_T75 xs i).f2 := by
  obtain ⟨ad, c, e, _, hK, hc0⟩ := Kd.C_get h z75 i h0 h1
  have hc : ∀ j u, c[j]? = some u → w.cell? (ad.add (i.toNat * 3 + j)) = some u := hc0
  obtain ⟨A2, c2, rfl, l2, g2⟩ := k75_open hK
  exact ⟨ad, A2, c2, e, hc 0 _ rfl, by rw [← add_field _ _ 1 (by omega)]; exact hc 1 _ rfl, by rw [← add_field _ _ 2 (by omega)]; exact hc 2 _ rfl, l2, g2⟩
structure S72 where
  f0 : Int
  f1 : Int
def z72 : S72 := ⟨(0 : Int), (0 : Int)⟩
def k72 : Kd S72 := Kd.iso (Kd.pair (Kd.int .i64) (Kd.int .i64)) (fun x : S72 => (x.f0, x.f1))
theorem k72_open {w : World} {x : S72} {cs : List Value} (h : k72.K w x cs) : cs = [.int .i64 x.f0, .int .i64 x.f1] := by
  obtain ⟨_, _, rfl, rfl, rfl⟩ := h
  exact rfl
theorem k72_openM {w : World} {base : Nat} {ok : Nat → Prop} {x : S72} {cs : List Value} (h : k72.M w base ok x cs) : cs = [.int .i64 x.f0, .int .i64 x.f1] := by
  obtain ⟨_, _, rfl, rfl, rfl⟩ := h
  exact rfl
theorem k72_mkM (w : World) (base : Nat) (ok : Nat → Prop) (x : S72)  : k72.M w base ok x [.int .i64 x.f0, .int .i64 x.f1] := ⟨[.int .i64 x.f0], [.int .i64 x.f1], rfl, rfl, rfl⟩
def rd_T72 (xs : List S72) (i : Int) : S72 := xs.getD i.toNat z72
theorem at_T72 {w : World} {A : Option Addr} {n : Nat} {xs : List S72} (h : Kd.C k72 w A n xs) (i : Int) (h0 : 0 ≤ i) (h1 : i < n) : ∃ ad , A = some ad ∧ w.cell? (ad.add (i.toNat * 2)) = some (.int .i64 (rd_T72 xs i).f0) ∧ w.cell? ⟨(ad.add (i.toNat * 2)).block, (ad.add (i.toNat * 2)).off + 1, none⟩ = some (.int .i64 (rd_T72 xs i).f1) := by
  obtain ⟨ad, c, e, _, hK, hc0⟩ := Kd.C_get h z72 i h0 h1
  have hc : ∀ j u, c[j]? = some u → w.cell? (ad.add (i.toNat * 2 + j)) = some u := hc0
  obtain rfl := k72_open hK
  exact ⟨ad, e, hc 0 _ rfl, by rw [← add_field _ _ 1 (by omega)]; exact hc 1 _ rfl⟩
structure S62 where
  f0 : Int
  f1 : Int
  f2 : (List Int)
def z62 : S62 := ⟨(0 : Int), (0 : Int), ([] : List Int)⟩
def k62 : Kd S62 := Kd.iso (Kd.pair (Kd.int .i64) (Kd.pair (Kd.int .i64) (Kd.slice 3 (Kd.int .i64)))) (fun x : S62 => (x.f0, x.f1, x.f2))
theorem k62_heap : Kd.Heap k62 := Kd.heap_iso _ (Kd.heap_pair (Kd.heap_int .i64) (Kd.heap_pair (Kd.heap_int .i64) (Kd.heap_slice 3 (Kd.heap_int .i64))))
theorem k62_open {w : World} {x : S62} {cs : List Value} (h : k62.K w x cs) : ∃ A2 c2, cs = [.int .i64 x.f0, .int .i64 x.f1, .slice A2 x.f2.length c2] ∧ x.f2.length ≤ c2 ∧ (Kd.int .i64).C w A2 x.f2.length x.f2 := by
  obtain ⟨_, _, rfl, rfl, ⟨_, _, rfl, rfl, ⟨A2, c2, rfl, l2, g2⟩⟩⟩ := h
  exact ⟨A2, c2, rfl, l2, g2⟩
theorem k62_openM {w : World} {base : Nat} {ok : Nat → Prop} {x : S62} {cs : List Value} (h : k62.M w base ok x cs) : ∃ v2, cs = [.int .i64 x.f0, .int .i64 x.f1, v2] ∧ (Kd.int .i64).R 3 w base ok v2 x.f2 := by
  obtain ⟨_, _, rfl, rfl, ⟨_, _, rfl, rfl, ⟨v2, rfl, g2⟩⟩⟩ := h
  exact ⟨v2, rfl, g2⟩
theorem k62_mkM (w : World) (base : Nat) (ok : Nat → Prop) (x : S62) {v2 : Value} (g2 : (Kd.int .i64).R 3 w base ok v2 x.f2) : k62.M w base ok x [.int .i64 x.f0, .int .i64 x.f1, v2] := ⟨[.int .i64 x.f0], [.int .i64 x.f1, v2], rfl, rfl, ⟨[.int .i64 x.f1], [v2], rfl, rfl, ⟨v2, rfl, g2⟩⟩⟩
def rd_T62 (xs : List S62) (i : Int) : S62 := xs.getD i.toNat z62
theorem at_T62 {w : World} {A : Option Addr} {n : Nat} {xs : List S62} (h : Kd.C k62 w A n xs) (i : Int) (h0 : 0 ≤ i) (h1 : i < n) : ∃ ad A2 c2, A = some ad ∧ w.cell? (ad.add (i.toNat * 3)) = some (.int .i64 (rd_T62 xs i).f0) ∧ w.cell? ⟨(ad.add (i.toNat * 3)).block, (ad.add (i.toNat * 3)).off + 1, none⟩ = some (.int .i64 (rd_T62 xs i).f1) ∧ w.cell? ⟨(ad.add (i.toNat * 3)).block, (ad.add (i.toNat * 3)).off + 2, none⟩ = some (.slice A2 (rd_T62 xs i).f2.length c2) ∧ (rd_T62 xs i).f2.length ≤ c2 ∧ (Kd.int .i64).C w A2 (rd_T62 xs i).f2.length (rd_T62 xs i).f2 := by
  obtain ⟨ad, c, e, _, hK, hc0⟩ := Kd.C_get h z62 i h0 h1
  have hc : ∀ j u, c[j]? = some u → w.cell? (ad.add (i.toNat * 3 + j)) = some u := hc0
  obtain ⟨A2, c2, rfl, l2, g2⟩ := k62_open hK
  exact ⟨ad, A2, c2, e, hc 0 _ rfl, by rw [← add_field _ _ 1 (by omega)]; exact hc 1 _ rfl, by rw [← add_field _ _ 2 (by omega)]; exact hc 2 _ rfl, l2, g2⟩
theorem zB {W0 W1 : World} {g : Nat} {o : Obj} (h : qah (W0.heap[g]? = some o)) (r_ : W0.heap[g]? = some o → W1.heap[g]? = some o := by intro h_; (with_reducible repeat (first | refine qae ?_ _ | refine qac ?_ | refine qad ?_ _)); exact h_) : W1.heap[g]? = some o := r_ h.out
theorem zY {W0 W1 w' : World} {g : Nat} {o : Obj} (h : qah (W0.heap[g]? = some o)) (hb : Below W1.heap.size W1 w') (r_ : W0.heap[g]? = some o → W1.heap[g]? = some o := by intro h_; (with_reducible repeat (first | refine qae ?_ _ | refine qac ?_ | refine qad ?_ _)); exact h_) : qah (w'.heap[g]? = some o) := ⟨qap (r_ h.out) hb⟩
theorem zL {W0 W1 : World} {g g' : Nat} {o : Obj} (h : qah (W0.heap[g]? = some o)) (hg : g' = W1.heap.size) (r_ : W0.heap[g]? = some o → W1.heap[g]? = some o := by intro h_; (with_reducible repeat (first | refine qae ?_ _ | refine qac ?_ | refine qad ?_ _)); exact h_) : qah (g ≠ g') := ⟨by rw [hg]; exact Nat.ne_of_lt (blk_lt (r_ h.out))⟩
theorem zG {W0 W1 : World} {g g' : Nat} {o : Obj} (h : qah (W0.heap[g]? = some o)) (hg : g' = W1.heap.size) (r_ : W0.heap[g]? = some o → W1.heap[g]? = some o := by intro h_; (with_reducible repeat (first | refine qae ?_ _ | refine qac ?_ | refine qad ?_ _)); exact h_) : qah (g' ≠ g) := ⟨Ne.symm (zL h hg r_).out⟩
theorem zH {w W : World} {g : Nat} (hg : g = W.heap.size) (h : Below w.heap.size w W) : qah (w.heap.size ≤ g) := ⟨by rw [hg]; exact qam h⟩
theorem zR {α : Type} {d : Kd α} {A : Option Addr} {n : Nat} {l : List α} {w W0 W1 : World} (h : qah (Kd.C d w A n l)) (hb : qah (Below w.heap.size w W0)) (r_ : Kd.C d W0 A n l → Kd.C d W1 A n l := by intro h_; repeat (first | exact h_ | (with_reducible refine Kd.C_alloc ?_ _) | (with_reducible refine Kd.C_drewN ?_ _) | (with_reducible refine Kd.C_drew ?_))) : Kd.C d W1 A n l := r_ (Kd.C_below h.out hb.out)
section
variable {P : Program} {ops : Array Oper} {rest : List Oper} {o : Oper} {a : Act} {Q : Exit → Act → World → Prop}
theorem zX {W : World} {N : Tmp} {cs : Array Value} {t : TypeId} (h : ∀ g, g = W.heap.size → ∀ w1, w1.heap[g]? = some (.cells cs t (0, 0)) → Below W.heap.size W w1 → wpList P ops Q rest (a.put o.dst (.pointer (some ⟨g, 0, none⟩))) w1) (hd : o.dst = some N := by rfl) (hgd : o.guard = none := by rfl) (hrun : (execOp a.eval o).run P W = .ok (.value (.pointer (some ⟨W.heap.size, 0, none⟩))) (W.alloc (.cells cs t (0, 0))) := by first | (go_simp; done) | (go_simp; rfl)) : wpList P ops Q (o :: rest) a W := box_event hgd hd hrun h
theorem zF {w : World} (N : Option Tmp) {f : FuncId} {fn : Func} (hf : P.funcs[f]? = some fn) {as_ : Array Operand} {ts : Array TypeId} (args : Array Value) (h : Calls P f args w fun e w' => ∃ v, e = .returned v ∧ wpList P ops Q rest (a.put N v) w') (hd : o.dst = N := by rfl) (hg : o.guard = none := by rfl) (hname : (fn.name == "runtime.NumGoroutine") = false := by kernel_rfl) (hb : fn.body.isSome = true := by rfl) (hop : o.op = .call { callee := .value (.func f), args := as_, argTypes := ts } := by rfl) (hargs : as_.map a.eval = args := by (try simp only [List.map_toArray, List.map_cons, List.map_nil]); first | done | rfl | (simp only [List.length_drop, List.length_take]; rfl)) : wpList P ops Q (o :: rest) a w := goesL_ N hd hg hf hname hb args hop hargs h
end
theorem zC1 {w : World} {g t : Nat} {v0 : Value} (h : qah (w.heap[g]? = some (.cells #[v0] t (0, 0)))) : w.cell? ⟨g, 0, none⟩ = some v0 ∧ w.frozen? ⟨g, 0, none⟩ = false := ⟨(qab h.out 0).trans rfl, blk_frozen h.out 0⟩
theorem zC2 {w : World} {g t : Nat} {v0 v1 : Value} (h : qah (w.heap[g]? = some (.cells #[v0, v1] t (0, 0)))) : w.cell? ⟨g, 0, none⟩ = some v0 ∧ w.cell? ⟨g, 1, none⟩ = some v1 ∧ w.frozen? ⟨g, 0, none⟩ = false ∧ w.frozen? ⟨g, 1, none⟩ = false := ⟨(qab h.out 0).trans rfl, (qab h.out 1).trans rfl, blk_frozen h.out 0, blk_frozen h.out 1⟩
theorem zC3 {w : World} {g t : Nat} {v0 v1 v2 : Value} (h : qah (w.heap[g]? = some (.cells #[v0, v1, v2] t (0, 0)))) : w.cell? ⟨g, 0, none⟩ = some v0 ∧ w.cell? ⟨g, 1, none⟩ = some v1 ∧ w.cell? ⟨g, 2, none⟩ = some v2 ∧ w.frozen? ⟨g, 0, none⟩ = false ∧ w.frozen? ⟨g, 1, none⟩ = false ∧ w.frozen? ⟨g, 2, none⟩ = false := ⟨(qab h.out 0).trans rfl, (qab h.out 1).trans rfl, (qab h.out 2).trans rfl, blk_frozen h.out 0, blk_frozen h.out 1, blk_frozen h.out 2⟩
theorem zC4 {w : World} {g t : Nat} {v0 v1 v2 v3 : Value} (h : qah (w.heap[g]? = some (.cells #[v0, v1, v2, v3] t (0, 0)))) : w.cell? ⟨g, 0, none⟩ = some v0 ∧ w.cell? ⟨g, 1, none⟩ = some v1 ∧ w.cell? ⟨g, 2, none⟩ = some v2 ∧ w.cell? ⟨g, 3, none⟩ = some v3 ∧ w.frozen? ⟨g, 0, none⟩ = false ∧ w.frozen? ⟨g, 1, none⟩ = false ∧ w.frozen? ⟨g, 2, none⟩ = false ∧ w.frozen? ⟨g, 3, none⟩ = false := ⟨(qab h.out 0).trans rfl, (qab h.out 1).trans rfl, (qab h.out 2).trans rfl, (qab h.out 3).trans rfl, blk_frozen h.out 0, blk_frozen h.out 1, blk_frozen h.out 2, blk_frozen h.out 3⟩
theorem zC5 {w : World} {g t : Nat} {v0 v1 v2 v3 v4 : Value} (h : qah (w.heap[g]? = some (.cells #[v0, v1, v2, v3, v4] t (0, 0)))) : w.cell? ⟨g, 0, none⟩ = some v0 ∧ w.cell? ⟨g, 1, none⟩ = some v1 ∧ w.cell? ⟨g, 2, none⟩ = some v2 ∧ w.cell? ⟨g, 3, none⟩ = some v3 ∧ w.cell? ⟨g, 4, none⟩ = some v4 ∧ w.frozen? ⟨g, 0, none⟩ = false ∧ w.frozen? ⟨g, 1, none⟩ = false ∧ w.frozen? ⟨g, 2, none⟩ = false ∧ w.frozen? ⟨g, 3, none⟩ = false ∧ w.frozen? ⟨g, 4, none⟩ = false := ⟨(qab h.out 0).trans rfl, (qab h.out 1).trans rfl, (qab h.out 2).trans rfl, (qab h.out 3).trans rfl, (qab h.out 4).trans rfl, blk_frozen h.out 0, blk_frozen h.out 1, blk_frozen h.out 2, blk_frozen h.out 3, blk_frozen h.out 4⟩
theorem zC6 {w : World} {g t : Nat} {v0 v1 v2 v3 v4 v5 : Value} (h : qah (w.heap[g]? = some (.cells #[v0, v1, v2, v3, v4, v5] t (0, 0)))) : w.cell? ⟨g, 0, none⟩ = some v0 ∧ w.cell? ⟨g, 1, none⟩ = some v1 ∧ w.cell? ⟨g, 2, none⟩ = some v2 ∧ w.cell? ⟨g, 3, none⟩ = some v3 ∧ w.cell? ⟨g, 4, none⟩ = some v4 ∧ w.cell? ⟨g, 5, none⟩ = some v5 ∧ w.frozen? ⟨g, 0, none⟩ = false ∧ w.frozen? ⟨g, 1, none⟩ = false ∧ w.frozen? ⟨g, 2, none⟩ = false ∧ w.frozen? ⟨g, 3, none⟩ = false ∧ w.frozen? ⟨g, 4, none⟩ = false ∧ w.frozen? ⟨g, 5, none⟩ = false := ⟨(qab h.out 0).trans rfl, (qab h.out 1).trans rfl, (qab h.out 2).trans rfl, (qab h.out 3).trans rfl, (qab h.out 4).trans rfl, (qab h.out 5).trans rfl, blk_frozen h.out 0, blk_frozen h.out 1, blk_frozen h.out 2, blk_frozen h.out 3, blk_frozen h.out 4, blk_frozen h.out 5⟩
theorem zC7 {w : World} {g t : Nat} {v0 v1 v2 v3 v4 v5 v6 : Value} (h : qah (w.heap[g]? = some (.cells #[v0, v1, v2, v3, v4, v5, v6] t (0, 0)))) : w.cell? ⟨g, 0, none⟩ = some v0 ∧ w.cell? ⟨g, 1, none⟩ = some v1 ∧ w.cell? ⟨g, 2, none⟩ = some v2 ∧ w.cell? ⟨g, 3, none⟩ = some v3 ∧ w.cell? ⟨g, 4, none⟩ = some v4 ∧ w.cell? ⟨g, 5, none⟩ = some v5 ∧ w.cell? ⟨g, 6, none⟩ = some v6 ∧ w.frozen? ⟨g, 0, none⟩ = false ∧ w.frozen? ⟨g, 1, none⟩ = false ∧ w.frozen? ⟨g, 2, none⟩ = false ∧ w.frozen? ⟨g, 3, none⟩ = false ∧ w.frozen? ⟨g, 4, none⟩ = false ∧ w.frozen? ⟨g, 5, none⟩ = false ∧ w.frozen? ⟨g, 6, none⟩ = false := ⟨(qab h.out 0).trans rfl, (qab h.out 1).trans rfl, (qab h.out 2).trans rfl, (qab h.out 3).trans rfl, (qab h.out 4).trans rfl, (qab h.out 5).trans rfl, (qab h.out 6).trans rfl, blk_frozen h.out 0, blk_frozen h.out 1, blk_frozen h.out 2, blk_frozen h.out 3, blk_frozen h.out 4, blk_frozen h.out 5, blk_frozen h.out 6⟩
theorem zC8 {w : World} {g t : Nat} {v0 v1 v2 v3 v4 v5 v6 v7 : Value} (h : qah (w.heap[g]? = some (.cells #[v0, v1, v2, v3, v4, v5, v6, v7] t (0, 0)))) : w.cell? ⟨g, 0, none⟩ = some v0 ∧ w.cell? ⟨g, 1, none⟩ = some v1 ∧ w.cell? ⟨g, 2, none⟩ = some v2 ∧ w.cell? ⟨g, 3, none⟩ = some v3 ∧ w.cell? ⟨g, 4, none⟩ = some v4 ∧ w.cell? ⟨g, 5, none⟩ = some v5 ∧ w.cell? ⟨g, 6, none⟩ = some v6 ∧ w.cell? ⟨g, 7, none⟩ = some v7 ∧ w.frozen? ⟨g, 0, none⟩ = false ∧ w.frozen? ⟨g, 1, none⟩ = false ∧ w.frozen? ⟨g, 2, none⟩ = false ∧ w.frozen? ⟨g, 3, none⟩ = false ∧ w.frozen? ⟨g, 4, none⟩ = false ∧ w.frozen? ⟨g, 5, none⟩ = false ∧ w.frozen? ⟨g, 6, none⟩ = false ∧ w.frozen? ⟨g, 7, none⟩ = false := ⟨(qab h.out 0).trans rfl, (qab h.out 1).trans rfl, (qab h.out 2).trans rfl, (qab h.out 3).trans rfl, (qab h.out 4).trans rfl, (qab h.out 5).trans rfl, (qab h.out 6).trans rfl, (qab h.out 7).trans rfl, blk_frozen h.out 0, blk_frozen h.out 1, blk_frozen h.out 2, blk_frozen h.out 3, blk_frozen h.out 4, blk_frozen h.out 5, blk_frozen h.out 6, blk_frozen h.out 7⟩
theorem za0 {p_ q0_ q1_ : Prop} (h0_ : qah q0_) (h1_ : qah q1_) (r_ : q0_ → q1_ → p_ := by intro h0_ h1_; repeat(first|(with_reducible first|exact h0_|apply below_alloc|apply pw_below_drewN|apply below_drew1|refine below_set ?_ h1_)|exact h0_)) : p_ := r_ h0_.out h1_.out
theorem za1 {p_ q0_ : Prop} (h0_ : qah q0_) (r_ : q0_ → p_ := by intro h0_; repeat(first|(with_reducible first|exact h0_|apply below_alloc|apply pw_below_drewN|apply below_drew1)|exact h0_)) : p_ := r_ h0_.out
theorem za2 {p_ q0_ q1_ q2_ : Prop} (h0_ : qah q0_) (h1_ : qah q1_) (h2_ : qah q2_) (r_ : q0_ → q1_ → q2_ → p_ := by intro h0_ h1_ h2_; repeat(first|(with_reducible first|exact h0_|apply below_alloc|apply pw_below_drewN|apply below_drew1|refine below_set ?_ h1_|refine below_set ?_ h2_)|exact h0_)) : p_ := r_ h0_.out h1_.out h2_.out
theorem za3 {p_ q0_ q1_ q2_ q3_ : Prop} (h0_ : qah q0_) (h1_ : qah q1_) (h2_ : qah q2_) (h3_ : qah q3_) (r_ : q0_ → q1_ → q2_ → q3_ → p_ := by intro h0_ h1_ h2_ h3_; repeat(first|(with_reducible first|exact h0_|apply below_alloc|apply pw_below_drewN|apply below_drew1|refine below_set ?_ h1_|refine below_set ?_ h2_|refine below_set ?_ h3_)|exact h0_)) : p_ := r_ h0_.out h1_.out h2_.out h3_.out
theorem za4 {p_ q0_ q1_ : Prop} (h0_ : qah q0_) (h1_ : qah q1_) (r_ : q0_ → q1_ → p_ := by intro h0_ h1_; (with_reducible repeat(first|refine qae ?_ _|refine qac ?_|refine qad ?_ _));refine blk_far ?_ h0_ _;(with_reducible repeat(first|refine qae ?_ _|refine qac ?_|refine qad ?_ _));refine blk_far ?_ h0_ _;(with_reducible repeat(first|refine qae ?_ _|refine qac ?_|refine qad ?_ _));exact h1_) : p_ := r_ h0_.out h1_.out
theorem za5 {p_ q0_ : Prop} (h0_ : qah q0_) (r_ : q0_ → p_ := by intro h0_; (with_reducible repeat(first|apply Kd.R_alloc|apply Kd.R_drewN|apply Kd.R_drew));exact h0_) : p_ := r_ h0_.out
theorem za6 {p_ q0_ q1_ q2_ q3_ q4_ : Prop} (h0_ : qah q0_) (h1_ : qah q1_) (h2_ : qah q2_) (h3_ : qah q3_) (h4_ : qah q4_) (r_ : q0_ → q1_ → q2_ → q3_ → q4_ → p_ := by intro h0_ h1_ h2_ h3_ h4_; repeat(first|(with_reducible first|exact h0_|apply below_alloc|apply pw_below_drewN|apply below_drew1|refine below_set ?_ h1_|refine below_set ?_ h2_|refine below_set ?_ h3_|refine below_set ?_ h4_)|exact h0_)) : p_ := r_ h0_.out h1_.out h2_.out h3_.out h4_.out
theorem za7 {p_ : Prop} (r_ : p_ := by first|(with_reducible assumption)|assumption) : p_ := r_
theorem za8 {p_ : Prop} (r_ : p_ := by first|rfl|(simp[qao,qan]<;>rfl)|(simp[*,qao,qan]<;>rfl)) : p_ := r_
theorem za9 {p_ q0_ : Prop} (h0_ : qah q0_) (r_ : q0_ → p_ := by intro h0_; (with_reducible repeat(first|apply Kd.S_alloc|apply Kd.S_drewN|apply Kd.S_drew));exact h0_) : p_ := r_ h0_.out
theorem za10 {p_ q0_ q1_ : Prop} (h0_ : qah q0_) (h1_ : qah q1_) (r_ : q0_ → q1_ → p_ := by intro h0_ h1_; (with_reducible repeat(first|refine qae ?_ _|refine qac ?_|refine qad ?_ _));refine blk_far ?_ h0_ _;(with_reducible repeat(first|refine qae ?_ _|refine qac ?_|refine qad ?_ _));refine blk_far ?_ h0_ _;(with_reducible repeat(first|refine qae ?_ _|refine qac ?_|refine qad ?_ _));refine blk_far ?_ h0_ _;(with_reducible repeat(first|refine qae ?_ _|refine qac ?_|refine qad ?_ _));refine blk_far ?_ h0_ _;(with_reducible repeat(first|refine qae ?_ _|refine qac ?_|refine qad ?_ _));refine blk_far ?_ h0_ _;(with_reducible repeat(first|refine qae ?_ _|refine qac ?_|refine qad ?_ _));exact h1_) : p_ := r_ h0_.out h1_.out
theorem za11 {p_ : Prop} (r_ : p_ := by first|rfl|(simp;done)|(simp[*];done)) : p_ := r_
theorem za12 {p_ q0_ : Prop} (h0_ : qah q0_) (r_ : q0_ → p_ := by intro h0_; (with_reducible repeat(first|refine qae ?_ _|refine qac ?_|refine qad ?_ _));exact h0_) : p_ := r_ h0_.out
theorem za13 {p_ q0_ : Prop} (h0_ : qah q0_) (r_ : q0_ → p_ := by intro h0_; repeat(first|(with_reducible first|exact h0_|apply Kept.alloc|apply Kept.drewN|apply Kept.drew)|exact h0_)) : p_ := r_ h0_.out
theorem za14 {p_ : Prop} (r_ : p_ := by repeat(first|exact Drawn0.refl _|apply Drawn0.step)) : p_ := r_
theorem za15 {p_ q0_ q1_ : Prop} (h0_ : qah q0_) (h1_ : qah q1_) (r_ : q0_ → q1_ → p_ := by intro h0_ h1_; (with_reducible repeat(first|refine qae ?_ _|refine qac ?_|refine qad ?_ _));refine blk_far ?_ h0_ _;(with_reducible repeat(first|refine qae ?_ _|refine qac ?_|refine qad ?_ _));exact h1_) : p_ := r_ h0_.out h1_.out
theorem za16 {p_ : Prop} (r_ : p_ := by first|exact Kd.R_nil _ _ _ _ _|exact Kd.N_nil _ _ _ _ _|exact Kd.V_nil _ _ _ _ _|exact Kd.Q_nil _ _ _ _ _|exact Kd.S_nil _ _ _ _ _) : p_ := r_
theorem za17 {p_ q0_ q1_ : Prop} (h0_ : qah q0_) (h1_ : qah q1_) (r_ : q0_ → q1_ → p_ := by intro h0_ h1_; (with_reducible repeat(first|refine qae ?_ _|refine qac ?_|refine qad ?_ _));refine blk_far ?_ h0_ _;(with_reducible repeat(first|refine qae ?_ _|refine qac ?_|refine qad ?_ _));refine blk_far ?_ h0_ _;(with_reducible repeat(first|refine qae ?_ _|refine qac ?_|refine qad ?_ _));refine blk_far ?_ h0_ _;(with_reducible repeat(first|refine qae ?_ _|refine qac ?_|refine qad ?_ _));exact h1_) : p_ := r_ h0_.out h1_.out
theorem za18 {p_ q0_ : Prop} (h0_ : qah q0_) (r_ : q0_ → p_ := by intro h0_; (with_reducible repeat(first|apply Kd.V_alloc|apply Kd.V_drewN|apply Kd.V_drew));exact h0_) : p_ := r_ h0_.out
theorem za19 {p_ : Prop} (r_ : p_ := by first|omega|exact Nat.le_refl _) : p_ := r_
end Go.Proofs.Ytbomcadjkcmcgaa.Print
