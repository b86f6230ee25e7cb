-- The row of the law loop.example/concierge/laws.FnExactHouseStock, out of its Pure (the session's) and the printed contract. Written by myprint.py, a program of this session: not trusted, Lean checks it.
import Derived.Test.YtbomcadjkcmcgaaRows
import Derived.Test.YtbomcadjkcmcgaaPstFnExactHouseStock
import Derived.Test.YtbomcadjkcmcgaaPureFnExactHouseStock
import Derived.WalkKit
import Derived.ProofKit
import Derived.OpenShut
import Derived.ShutString
import Derived.ChangeOld
import Derived.Below
import Derived.SizedLaws
import Derived.Lib.SmallJoins
namespace Go.Proofs.Ytbomcadjkcmcgaa.fnExactHouseStock
open Go.ChangeShapes Go.WideShapes Go.ChangeAt Go.RowKit Go.Joins Go.Deep Go.Proofs.Ytbomcadjkcmcgaa.Print Go.Proofs.YtbomcadjkcmcgaaW.PrintWords
open Go.ChangeMaps (open_string shut_string)
set_option linter.unusedVariables false
theorem own : ownKnob Try.prog.godebug = none := by kernel_rfl
theorem laidOut : laidOutB Try.prog = true := by kernel_rfl
set_option maxRecDepth 100000 in
set_option maxHeartbeats 1000000 in
theorem lifted (os : Os) (started : os.Started) (H : Type) (enc : TypeId × Value → H) :
    ReturnsInHanded {} Try.checked os 4 .any (Rows.fnExactHouseStockSpec.pre6 enc Try.prog Try.f4 Rows.fnExactHouseStockRow.domain false) (Rows.fnExactHouseStockSpec.post enc Try.prog Try.f4 false true false false) := by
  refine returnsInHanded_of_change_sized (C := Try.checked) own started (by kernel_rfl) Try.func4
    (ChangeSpec.witness6 (enc := enc) (C := Try.checked) false ⟨#[], #[.agg #[.int .i64 0, .bool false, .int .i64 0, .slice none 0 0, .int .i64 0], .bool false], []⟩ 8 (by kernel_rfl) (by kernel_rfl) (by kernel_rfl) (by kernel_rfl)) ?_
  intro W base args ds gs before hval0 hW hcnd hsz0 _
  have hval : ∀ (j : Nat) t v, Try.f4.params[j]? = some t → args[j]? = some v → Value.okWide Try.prog W .any base t v := hval0
  have hW' := hW
  obtain ⟨p, q, hA0, hV, rfl, hfz, hnd⟩ := hW
  have hA : DataW.TrodAll enc Try.prog W 0 (fun _ => true) true Try.f4.params.toList args.toList ds p := hA0
  rw [Try.params4] at hA hval
  obtain ⟨v0, vs0, d0, ds0, p0, q0, hargs, rfl, rfl, h0, r0⟩ := trodAll_cons hA
  obtain ⟨v1, vs1, d1, ds1, p1, q1, rfl, rfl, rfl, h1, r1⟩ := trodAll_cons r0
  obtain ⟨rfl, rfl, rfl⟩ := trodAll_nil r1
  obtain rfl : args = #[v0, v1] := by cases args; simp_all
  obtain ⟨rfl, rfl⟩ := trodVars_none hV
  have k0 := h0
  have lt0 : ∀ x ∈ p0, x.block < W.heap.size := by obtain ⟨m, hm⟩ := k0; exact DataW.trod_lt m _ _ _ hm
  obtain ⟨cs0, rfl, hz0⟩ := okWide_struct Try.underlying26 (hval 0 26 v0 rfl rfl)
  obtain ⟨u0_0, u0_1, u0_2, u0_3, u0_4, rfl⟩ := arr5 cs0 (hz0.trans (by kernel_rfl))
  obtain ⟨fu0, hf_0⟩ := h0
  have hg0 : DataW.trod enc Try.prog W 0 (fun _ => true) true fu0 26 [u0_0, u0_1, u0_2, u0_3, u0_4] = some (d0, p0) := by simpa [Value.cells] using hf_0
  obtain ⟨m1, hl1, hf1⟩ := trod_fields Try.underlying26 hg0
  obtain ⟨y1_0, g1_0⟩ := hf1 0 _ rfl
  replace g1_0 : DataW.trod enc Try.prog W 0 (fun _ => true) true m1 3 [u0_0] = some y1_0 := by simpa [show Try.prog.cellsOf 3 = 1 from by kernel_rfl] using g1_0
  obtain ⟨a0_0, e0_0, o0_0⟩ := opens3 _ _ _ _ _ _ _ _ _ g1_0
  obtain rfl : u0_0 = _ := List.head_eq_of_cons_eq e0_0
  obtain ⟨y1_1, g1_1⟩ := hf1 1 _ rfl
  replace g1_1 : DataW.trod enc Try.prog W 0 (fun _ => true) true m1 4 [u0_1] = some y1_1 := by simpa [show Try.prog.cellsOf 4 = 1 from by kernel_rfl] using g1_1
  obtain ⟨a0_1, e0_1, o0_1⟩ := opens4 _ _ _ _ _ _ _ _ _ g1_1
  obtain rfl : u0_1 = _ := List.head_eq_of_cons_eq e0_1
  obtain ⟨y1_2, g1_2⟩ := hf1 2 _ rfl
  replace g1_2 : DataW.trod enc Try.prog W 0 (fun _ => true) true m1 3 [u0_2] = some y1_2 := by simpa [show Try.prog.cellsOf 3 = 1 from by kernel_rfl] using g1_2
  obtain ⟨a0_2, e0_2, o0_2⟩ := opens3 _ _ _ _ _ _ _ _ _ g1_2
  obtain rfl : u0_2 = _ := List.head_eq_of_cons_eq e0_2
  obtain ⟨y1_3, g1_3⟩ := hf1 3 _ rfl
  replace g1_3 : DataW.trod enc Try.prog W 0 (fun _ => true) true m1 24 [u0_3, u0_4] = some y1_3 := by simpa [show Try.prog.cellsOf 24 = 2 from by kernel_rfl] using g1_3
  obtain ⟨m2, hl2, hf2⟩ := trod_fields Try.underlying24 g1_3
  obtain ⟨y2_0, g2_0⟩ := hf2 0 _ rfl
  replace g2_0 : DataW.trod enc Try.prog W 0 (fun _ => true) true m2 22 [u0_3] = some y2_0 := by simpa [show Try.prog.cellsOf 22 = 1 from by kernel_rfl] using g2_0
  obtain ⟨l0_3, ⟨A0_3, c0_3, e0_3, hc0_3, hr0_3⟩, o0_3⟩ := opens22 _ _ _ _ _ _ _ _ _ g2_0
  obtain rfl : u0_3 = _ := List.head_eq_of_cons_eq e0_3
  obtain ⟨y2_1, g2_1⟩ := hf2 1 _ rfl
  replace g2_1 : DataW.trod enc Try.prog W 0 (fun _ => true) true m2 3 [u0_4] = some y2_1 := by simpa [show Try.prog.cellsOf 3 = 1 from by kernel_rfl] using g2_1
  obtain ⟨a0_4, e0_4, o0_4⟩ := opens3 _ _ _ _ _ _ _ _ _ g2_1
  obtain rfl : u0_4 = _ := List.head_eq_of_cons_eq e0_4
  have k1 := h1
  have lt1 : ∀ x ∈ p1, x.block < W.heap.size := by obtain ⟨m, hm⟩ := k1; exact DataW.trod_lt m _ _ _ hm
  obtain ⟨a1, rfl, rfl, rfl⟩ := open_bool Try.underlying4 (hval 1 4 v1 rfl rfl) h1
  have o1 : ok4 a1 := trivial
  clear hA0 hval0 hsz0
  obtain ⟨k, h⟩ := Pure.FnExactHouseStock a0_0 a0_1 a0_2 l0_3 a0_4 a1 o0_0 o0_1 o0_2 o0_3 o0_4 o1
  refine (laws_FnExactHouseStock.calls k a0_0 a0_1 a0_2 _ _ l0_3 a0_4 a1 true W hr0_3 hc0_3 h).mono fun e W' ⟨he, bel0⟩ => ?_
  have bel : Below W.heap.size W W' := bel0
  subst he
  exact ⟨_, rfl, _, _, _, [], _, [], hW', trodAll_mk1 (shut_bool Try.underlying4 _), (trodAll_cons_mk (Below.trod laidOut (by kernel_rfl) (of_decide_eq_true (by kernel_rfl)) k0 bel lt0) (trodAll_cons_mk (Below.trod laidOut (by kernel_rfl) (of_decide_eq_true (by kernel_rfl)) k1 bel lt1) trodAll_mk0)), rfl, bel.frame _, fun h => by cases h⟩
theorem over : Rows.fnExactHouseStockRow.holds Try.pinned (OpenSpec.ofChange Rows.fnExactHouseStockSpec) :=
  OpenClaim.holds_of_wide 4 Try.f4 rfl rfl rfl rfl rfl rfl rfl ⟨rfl, rfl, rfl, rfl, rfl⟩ rfl rfl rfl rfl rfl (by kernel_rfl) Try.func4 (by kernel_rfl)
    (of_decide_eq_true (by kernel_rfl)) (by unfold Func.isWrapper; first | (rw [if_pos (by decide +kernel)]; kernel_rfl) | (rw [if_neg (by decide +kernel)]; exact ⟨rfl, rfl⟩))
    (fun os started H enc _ => lifted os started H enc)
theorem proved : Rows.FnExactHouseStockSaid := over
#print axioms proved
end Go.Proofs.Ytbomcadjkcmcgaa.fnExactHouseStock
namespace Go.Proofs.Ytbomcadjkcmcgaa
/-- The row, under a short name, for the claim. -/
theorem fnExactHouseStock_holds : Rows.FnExactHouseStockSaid := fnExactHouseStock.proved
end Go.Proofs.Ytbomcadjkcmcgaa
