-- The row of the law loop.example/concierge/laws.FnExactRecText, out of its Pure (the session's) and the printed contract. Written by myprint.py, a program of this session: not trusted, Lean checks it.
import Derived.Test.YtbcepmkifomifaaDoorRows
import Derived.Test.YtbcepmkifomifaaDoorHand
import Derived.Test.YtbcepmkifomifaaDoorTie
import Derived.Test.YtbcepmkifomifaaDoorCards
import Derived.SevenTiedAt
import Derived.Test.YtbcepmkifomifaaDoorPstFnExactRecText
import Derived.Test.YtbcepmkifomifaaDoorPureFnExactRecText
import Derived.WalkKit
import Derived.ProofKit
import Derived.OpenShut
import Derived.ShutString
import Derived.ChangeOld
import Derived.Below
import Derived.SizedLaws
import Derived.Lib.SmallJoins
namespace Go.Proofs.YtbcepmkifomifaaDoor.fnExactRecText
open Go.ChangeShapes Go.WideShapes Go.ChangeAt Go.RowKit Go.Joins Go.Deep Go.Proofs.YtbcepmkifomifaaDoor.Print Go.Proofs.YtbcepmkifomifaaDoorW.PrintWords
open Go.ChangeMaps (open_string shut_string)
set_option linter.unusedVariables false
theorem own : ownKnob Tryd.prog.godebug = none := by kernel_rfl
theorem laidOut : laidOutB Tryd.prog = true := by kernel_rfl
set_option maxRecDepth 100000 in
set_option maxHeartbeats 1000000 in
theorem lifted (os : Os) (started : os.Started) (H : Type) (enc : TypeId × Value → H) :
    ReturnsInHanded {} Tryd.checked os 8 .any (fun w args => (Rows.fnExactRecTextSpec.pre enc Tryd.prog Tryd.f8 Rows.fnExactRecTextRow.domain false w args ∧ laidMetH Tryd.prog Hand.laid3 w) ∧ sizedMet enc Tryd.prog Tryd.f8 (OpenSpec.ofChange Rows.fnExactRecTextSpec) false w args) (Rows.fnExactRecTextSpec.post enc Tryd.prog Tryd.f8 false true false false) := by
  refine Hand.handed (C := Tryd.checked) (X := fun w _ => laidMetH Tryd.prog Hand.laid3 w) (fun _ _ _ hh h => h.of_heap hh) own started (by kernel_rfl) Tryd.func8
    (ChangeSpec.witness_shaped (enc := enc) (C := Tryd.checked) (os := os) (X := fun w _ => laidMetH Tryd.prog Hand.laid3 w) false (Hand.start3 os) #[.agg #[.int .i64 0, .int .i64 0, .slice none 0 0]] 8 (Hand.start3_os os) (Hand.start3_shaped os _) (by kernel_rfl) (by kernel_rfl) (by kernel_rfl) (Hand.door_met3 os _)) ?_
  intro W base args ds gs before hval0 hW hcnd hsz0 hX hshape _
  have hval : ∀ (j : Nat) t v, Tryd.f8.params[j]? = some t → args[j]? = some v → Value.okWide Tryd.prog W .any base t v := hval0
  have hW' := hW
  obtain ⟨p, q, hA0, hV, rfl, hfz, hnd⟩ := hW
  have hA : DataW.TrodAll enc Tryd.prog W 0 (fun _ => true) true Tryd.f8.params.toList args.toList ds p := hA0
  rw [Tryd.params8] at hA hval
  obtain ⟨v0, vs0, d0, ds0, p0, q0, hargs, rfl, rfl, h0, r0⟩ := trodAll_cons hA
  obtain ⟨rfl, rfl, rfl⟩ := trodAll_nil r0
  obtain rfl : args = #[v0] := by cases args; simp_all
  obtain ⟨rfl, rfl⟩ := trodVars_none hV
  have k0 := h0
  have lt0 : ∀ x ∈ p0, x.block < W.heap.size := by obtain ⟨m, hm⟩ := k0; exact DataW.trod_lt m _ _ _ hm
  obtain ⟨cs0, rfl, hz0⟩ := okWide_struct Tryd.underlying44 (hval 0 44 v0 rfl rfl)
  obtain ⟨u0_0, u0_1, u0_2, rfl⟩ := arr3 cs0 (hz0.trans (by kernel_rfl))
  obtain ⟨fu0, hf_0⟩ := h0
  have hg0 : DataW.trod enc Tryd.prog W 0 (fun _ => true) true fu0 44 [u0_0, u0_1, u0_2] = some (d0, p0) := by simpa [Value.cells] using hf_0
  obtain ⟨m1, hl1, hf1⟩ := trod_fields Tryd.underlying44 hg0
  obtain ⟨y1_0, g1_0⟩ := hf1 0 _ rfl
  replace g1_0 : DataW.trod enc Tryd.prog W 0 (fun _ => true) true m1 3 [u0_0] = some y1_0 := by simpa [show Tryd.prog.cellsOf 3 = 1 from by kernel_rfl] using g1_0
  obtain ⟨a0_0, e0_0, o0_0⟩ := opens3 _ _ _ _ _ _ _ _ _ g1_0
  obtain rfl : u0_0 = _ := List.head_eq_of_cons_eq e0_0
  obtain ⟨y1_1, g1_1⟩ := hf1 1 _ rfl
  replace g1_1 : DataW.trod enc Tryd.prog W 0 (fun _ => true) true m1 3 [u0_1] = some y1_1 := by simpa [show Tryd.prog.cellsOf 3 = 1 from by kernel_rfl] using g1_1
  obtain ⟨a0_1, e0_1, o0_1⟩ := opens3 _ _ _ _ _ _ _ _ _ g1_1
  obtain rfl : u0_1 = _ := List.head_eq_of_cons_eq e0_1
  obtain ⟨y1_2, g1_2⟩ := hf1 2 _ rfl
  replace g1_2 : DataW.trod enc Tryd.prog W 0 (fun _ => true) true m1 23 [u0_2] = some y1_2 := by simpa [show Tryd.prog.cellsOf 23 = 1 from by kernel_rfl] using g1_2
  obtain ⟨l0_2, ⟨A0_2, c0_2, e0_2, hc0_2, hr0_2⟩, o0_2⟩ := opens23 _ _ _ _ _ _ _ _ _ g1_2
  obtain rfl : u0_2 = _ := List.head_eq_of_cons_eq e0_2
  clear hA0 hval0 hsz0
  obtain ⟨k, h⟩ := Pure.FnExactRecText a0_0 a0_1 l0_2 o0_0 o0_1 o0_2
  refine (laws_FnExactRecText.calls k a0_0 a0_1 _ _ l0_2 true W hr0_2 hc0_2 h).mono fun e W' ⟨he, bel0⟩ => ?_
  have bel : Below W.heap.size W W' := bel0
  subst he
  exact ⟨_, rfl, _, _, _, [], _, [], hW', trodAll_mk1 (shut_bool Tryd.underlying4 _), (trodAll_cons_mk (Below.trod laidOut (by kernel_rfl) (of_decide_eq_true (by kernel_rfl)) k0 bel lt0) trodAll_mk0), rfl, bel.frame _, fun h => by cases h⟩
theorem over : Rows.fnExactRecTextRow.holds Tryd.pinned (OpenSpec.ofChange Rows.fnExactRecTextSpec) :=
  OpenClaim.holds_of_wide 8 Tryd.f8 rfl rfl rfl rfl rfl rfl rfl ⟨rfl, rfl, rfl, rfl, rfl⟩ rfl rfl rfl rfl rfl (by kernel_rfl) Tryd.func8 (by kernel_rfl)
    (of_decide_eq_true (by kernel_rfl)) (by unfold Func.isWrapper; first | (rw [if_pos (by decide +kernel)]; kernel_rfl) | (rw [if_neg (by decide +kernel)]; exact ⟨rfl, rfl⟩))
    (fun os started H enc _ => lifted os started H enc)
theorem proved : Rows.FnExactRecTextSaid := over
theorem card_holds : Claim7.holds Tryd.pinned (.plain (OpenSpec.ofChange Rows.fnExactRecTextSpec)) Rows.fnExactRecTextCard :=
  Claim7.holds_tied_plain_at .later [] [.data, .data, .data] true (true, "857c74b7a27646d4034cb53ca4faa2a95dcb653608a0c2658ab96bdcbcb3e975") true
    over (fun _ h => by cases h) (by kernel_rfl) (fun _ h => by cases h) fnExactRecText_row_tie rfl ⟨rfl, rfl⟩ (by kernel_rfl) rfl
    (fun f fn hf hfn => by
      obtain rfl : f = 8 := Option.some.inj ((show Tryd.prog.funcNamed "loop.example/concierge/laws.FnExactRecText" = some 8 by kernel_rfl).symm.trans hf) |>.symm
      obtain rfl : fn = Tryd.f8 := (Option.some.inj (Tryd.func8.symm.trans hfn)).symm
      exact ⟨by kernel_rfl, fun j t ht => by
        have hm : t ∈ Tryd.f8.params.toList := by simpa using Array.mem_of_getElem? ht
        have hall : (Tryd.f8.params.toList.all fun u => !Tryd.prog.wantsStandIn u) = true := by kernel_rfl
        exact (show Tryd.prog.wantsStandIn t = false by simpa using List.all_eq_true.1 hall t hm)⟩)
    (by kernel_rfl)
#print axioms card_holds
end Go.Proofs.YtbcepmkifomifaaDoor.fnExactRecText
namespace Go.Proofs.YtbcepmkifomifaaDoor
/-- The card, under a short name, for the claim. -/
theorem fnExactRecText_holds : Rows.FnExactRecTextCardSaid := fnExactRecText.card_holds
end Go.Proofs.YtbcepmkifomifaaDoor
