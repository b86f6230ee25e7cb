/- The reader of a code: a number is drawn, below n, and the place goes on by one. -/
import Derived.Test.YtbcepmkifomifaaDoorPureBase
import Derived.Test.YtbcepmkifomifaaDoorZb0
import Derived.OpenShut
namespace Go.Proofs.YtbcepmkifomifaaDoor.Pure
open Go.RowKit Go.Proofs.YtbcepmkifomifaaDoor.Print Go.Proofs.YtbcepmkifomifaaDoorW.PrintWords Go.Proofs.YtbcepmkifomifaaDoorW.PrintLast

theorem ofInt_i64 (a : Nat) (ha : a < 9223372036854775808) : (BitVec.ofInt 64 (a : Int)).toNat = a := by
  rw [BitVec.ofInt_natCast, BitVec.toNat_ofNat]; exact Nat.mod_eq_of_lt (by omega)
theorem i64_xor_nat (a b : Nat) (ha : a < 9223372036854775808) (hb : b < 9223372036854775808) : Go.bits .xor .i64 (a : Int) (b : Int) = ((a ^^^ b : Nat) : Int) := by
  have hx : a ^^^ b < 2 ^ 63 := Nat.xor_lt_two_pow (by omega) (by omega)
  show IntKind.i64.wrap ((BitVec.ofInt 64 (a : Int) ^^^ BitVec.ofInt 64 (b : Int)).toNat : Int) = _
  rw [BitVec.toNat_xor, ofInt_i64 a ha, ofInt_i64 b hb, IntKind.wrap_i64]
  omega
theorem xor_pos (x y : Int) (h0 : 0 ≤ x) (h1 : x ≤ 1000000000000) (h2 : 0 ≤ y) (h3 : y ≤ 1000000000000) : 0 ≤ Go.bits .xor .i64 x y := by
  obtain ⟨a, rfl⟩ := Int.eq_ofNat_of_zero_le h0
  obtain ⟨b, rfl⟩ := Int.eq_ofNat_of_zero_le h2
  rw [i64_xor_nat a b (by omega) (by omega)]
  omega
theorem rd_byte {b : List Int} (hb : ∀ x ∈ b, 0 ≤ x ∧ x ≤ 255) (i : Int) : 0 ≤ rd b i ∧ rd b i ≤ 255 := by
  unfold rd
  rw [List.getD_eq_getElem?_getD]
  cases h : b[i.toNat]? with
  | none => simp
  | some x => simpa using hb x (List.mem_of_getElem? h)
theorem tmod_lt {x n : Int} (h0 : 0 ≤ x) (hn : 0 < n) : 0 ≤ Int.tmod x n ∧ Int.tmod x n < n :=
  ⟨Int.tmod_nonneg n h0, Int.tmod_lt_of_pos x hn⟩

/-- A code as it is read: bytes, not too many. -/
def Code (b : List Int) : Prop := b.length ≤ 2000 ∧ ∀ x ∈ b, 0 ≤ x ∧ x ≤ 255
theorem open_ex (l : List Int) (h : ∀ x ∈ l, (Lit.int .u8 x).wf = true) : Ex (spec_l6Open.f l) (fun r => Code r.1 ∧ r.2 = 0) := by
  have hb : ∀ x ∈ l, 0 ≤ x ∧ x ≤ 255 := fun x hx => bounds_u8 (h x hx)
  unfold spec_l6Open.f
  refine Ex.ite (fun h1 => Ex.ite (fun _ => Ex.ret ⟨⟨?_, ?_⟩, rfl⟩) (fun h2 => by omega)) (fun h1 => Ex.ret ⟨⟨show l.length ≤ 2000 from by omega, hb⟩, rfl⟩)
  · show (l.take 2000).length ≤ 2000
    rw [List.length_take]; omega
  · intro x hx
    exact hb x (List.mem_of_mem_take hx)
theorem pick_ex (k : Nat) (b : List Int) (hb : Code b) (p n : Int) (hp : 0 ≤ p) (hp2 : p ≤ 1000000000) (hn : 1 ≤ n) (hn2 : n ≤ 1000000) (hk : 1 ≤ k) :
    Ex (spec_l6Rd_pick.f k b p n) (fun r => 0 ≤ r.1 ∧ r.1 < n ∧ r.2 = p + 1) := by
  obtain ⟨k, rfl⟩ : ∃ m, k = m + 1 := ⟨k - 1, by omega⟩
  obtain ⟨hl, hb⟩ := hb
  unfold spec_l6Rd_pick.f
  rw [if_neg (by omega)]
  simp only [spec_l6Rd_pick.j0]
  have e1 : wrap64 (p + 1) = p + 1 := w64 (by omega) (by omega)
  have e2 : wrap64 (p + 1 - 1) = p := by rw [w64 (by omega) (by omega)]; omega
  rw [e1, e2]
  refine Ex.ite (fun h => Ex.ret ⟨Int.le_refl _, by show (0 : Int) < n; omega, rfl⟩) (fun h => ?_)
  have hl0 : (b.length : Int) ≠ 0 := by simpa using h
  refine Ex.ite (fun h1 => Ex.ite (fun _ => Ex.ite (fun h => by omega) (fun _ => Ex.ret ?_)) (fun h => by omega)) (fun h1 => Ex.ite (fun h => absurd h hl0) (fun _ => ?_))
  · have hr := rd_byte hb p
    rw [w64 (by omega) (by omega)]
    exact ⟨(tmod_lt hr.1 (by omega)).1, (tmod_lt hr.1 (by omega)).2, rfl⟩
  · have ht := tmod_lt (x := p) (n := (b.length : Int)) hp (by omega)
    have e3 : wrap64 (wrap64 (p * 7) + 3) = p * 7 + 3 := by rw [w64 (n := p * 7) (by omega) (by omega), w64 (by omega) (by omega)]
    have ht2 := tmod_lt (x := p * 7 + 3) (n := (b.length : Int)) (by omega) (by omega)
    rw [e3]
    refine Ex.ite (fun _ => Ex.ite (fun _ => Ex.ite (fun _ => Ex.ite (fun _ => Ex.ite (fun h => by omega) (fun _ => Ex.ret ?_)) (fun h => by omega)) (fun h => by omega)) (fun h => by omega)) (fun h => by omega)
    have r1 := rd_byte hb (Int.tmod p b.length)
    have r2 := rd_byte hb (Int.tmod (p * 7 + 3) b.length)
    generalize rd b (Int.tmod p b.length) = y1 at *
    generalize rd b (Int.tmod (p * 7 + 3) b.length) = y2 at *
    have hq0 : 0 ≤ Int.tdiv p b.length := Int.tdiv_nonneg hp (by omega)
    have hq1 : Int.tdiv p b.length ≤ p := Int.tdiv_le_self _ hp
    generalize Int.tdiv p b.length = q at *
    have ex : wrap64 (wrap64 (wrap64 (wrap64 (wrap64 y1 * 131) + wrap64 (wrap64 y2 * 1117)) + wrap64 (p * 29)) + wrap64 (wrap64 q * 53)) = y1 * 131 + y2 * 1117 + p * 29 + q * 53 := by
      rw [w64 (n := y1) (by omega) (by omega), w64 (n := y2) (by omega) (by omega), w64 (n := y1 * 131) (by omega) (by omega), w64 (n := y2 * 1117) (by omega) (by omega), w64 (n := p * 29) (by omega) (by omega), w64 (n := q) (by omega) (by omega), w64 (n := q * 53) (by omega) (by omega), w64 (n := y1 * 131 + y2 * 1117) (by omega) (by omega), w64 (n := y1 * 131 + y2 * 1117 + p * 29) (by omega) (by omega), w64 (by omega) (by omega)]
    rw [ex]
    generalize hX : y1 * 131 + y2 * 1117 + p * 29 + q * 53 = X
    have hX0 : 0 ≤ X ∧ X ≤ 1000000000000 := by omega
    have hd0 : 0 ≤ Int.tdiv X 64 := Int.tdiv_nonneg hX0.1 (by omega)
    have hd1 : Int.tdiv X 64 ≤ X := Int.tdiv_le_self _ hX0.1
    rw [w64 (n := Int.tdiv X 64) (by omega) (by omega)]
    have hx := xor_pos X (Int.tdiv X 64) hX0.1 hX0.2 hd0 (by omega)
    exact ⟨(tmod_lt hx (by omega)).1, (tmod_lt hx (by omega)).2, rfl⟩

end Go.Proofs.YtbcepmkifomifaaDoor.Pure
