/-
  No cell of these rows narrows 'for every input' (looked for: loops, veiled, ifaces, maps, wideKeys, modest, calm, conditions, laid).
  DERIVED. THE GIVEN ROWS OF THIS SEAT. 12 by the template 'for every input the law returns true; each argument reads behind the call as it read before'; 0 by the template 'total and deterministic' (their statements: YtkbjgmfghhgodaaTotals.lean).
  GIVEN WITH THE SEED: the statements are not yours to turn. If you find one false, say at which input.
  Laid BY PROGRAM, IN A SANDBOX (cutbox-rows.mjs): the forced cells as the released guide's own fill.sh prints them over the translation 94aeb59ba7e9b575… (all of the seat's roots in one cut). By AI agents, Wed Nov 11 2026. No macro, syntax, notation, axiom, sorry.
-/
import Derived.Test.YtkbjgmfghhgodaaChecked
import GoSem.Claim
import GoSem.ClaimJoined
import GoSem.ClaimMapViews
import Derived.JoinedTies
import Derived.KernelRfl
namespace Go.Proofs.Ytkbjgmfghhgodaa
/- THE CELL 'sum', in the pinned program and in every row, IS THE sha256 OF THE DUMP (.gsa) THAT YtkbjgmfghhgodaaProg.lean LOADS. Nothing in Lean hashes anything: it is a label: what it is worth is what the hold of that sum in a sandbox is worth. -/
noncomputable def Try.pinned : Pinned := { name := "ytkbjgmfghhgodaa", sum := "94aeb59ba7e9b575df2b7478bd6fcf3785fe56688aae12e1426c927a1c8d8b4b", checked := Try.checked }
namespace Rows
def none {H : Type} : Left H := { results := [], args := [] }

/-- 'laws.FnExactConstants': WHATEVER THE INPUT: true; the input reads as it did. -/
def fnExactConstantsSpec : ChangeSpec := { name := "fnExactConstants", fn := fun _ => fun
  | [] => { results := [.lit (.bool true)], args := [] }
  | _ => none }
def fnExactConstantsRow : OpenClaim := { program := "ytkbjgmfghhgodaa", sum := "94aeb59ba7e9b575df2b7478bd6fcf3785fe56688aae12e1426c927a1c8d8b4b", func := "loop.example/concierge/laws.FnExactConstants", spec := "fnExactConstants", apart := false }
def FnExactConstantsSaid : Prop := fnExactConstantsRow.holds Try.pinned (OpenSpec.ofChange fnExactConstantsSpec)

/-- ITS FALSE NEIGHBOUR: 'it returns false'. Refute it at one input. -/
def fnExactConstantsWrong : ChangeSpec := { name := "fnExactConstants", fn := fun _ => fun
  | [] => { results := [.lit (.bool false)], args := [] }
  | _ => none }
def FnExactConstantsWrongFalsely : Prop := fnExactConstantsRow.holds Try.pinned (OpenSpec.ofChange fnExactConstantsWrong)

/-- 'laws.FnExactWordOk': WHATEVER THE INPUT: true; the input reads as it did. -/
def fnExactWordOkSpec : ChangeSpec := { name := "fnExactWordOk", fn := fun _ => fun
  | [d] => { results := [.lit (.bool true)], args := [d] }
  | _ => none }
def fnExactWordOkRow : OpenClaim := { program := "ytkbjgmfghhgodaa", sum := "94aeb59ba7e9b575df2b7478bd6fcf3785fe56688aae12e1426c927a1c8d8b4b", func := "loop.example/concierge/laws.FnExactWordOk", spec := "fnExactWordOk", apart := false }
def FnExactWordOkSaid : Prop := fnExactWordOkRow.holds Try.pinned (OpenSpec.ofChange fnExactWordOkSpec)

/-- ITS FALSE NEIGHBOUR: 'it returns false'. Refute it at one input. -/
def fnExactWordOkWrong : ChangeSpec := { name := "fnExactWordOk", fn := fun _ => fun
  | [d] => { results := [.lit (.bool false)], args := [d] }
  | _ => none }
def FnExactWordOkWrongFalsely : Prop := fnExactWordOkRow.holds Try.pinned (OpenSpec.ofChange fnExactWordOkWrong)

/-- 'laws.FnWordForm': WHATEVER THE INPUT: true; the input reads as it did. -/
def fnWordFormSpec : ChangeSpec := { name := "fnWordForm", fn := fun _ => fun
  | [d1, d2] => { results := [.lit (.bool true)], args := [d1, d2] }
  | _ => none }
def fnWordFormRow : OpenClaim := { program := "ytkbjgmfghhgodaa", sum := "94aeb59ba7e9b575df2b7478bd6fcf3785fe56688aae12e1426c927a1c8d8b4b", func := "loop.example/concierge/laws.FnWordForm", spec := "fnWordForm", apart := false }
def FnWordFormSaid : Prop := fnWordFormRow.holds Try.pinned (OpenSpec.ofChange fnWordFormSpec)

/-- ITS FALSE NEIGHBOUR: 'it returns false'. Refute it at one input. -/
def fnWordFormWrong : ChangeSpec := { name := "fnWordForm", fn := fun _ => fun
  | [d1, d2] => { results := [.lit (.bool false)], args := [d1, d2] }
  | _ => none }
def FnWordFormWrongFalsely : Prop := fnWordFormRow.holds Try.pinned (OpenSpec.ofChange fnWordFormWrong)

/-- 'laws.FnExactStockNew': WHATEVER THE INPUT: true; the input reads as it did. -/
def fnExactStockNewSpec : ChangeSpec := { name := "fnExactStockNew", fn := fun _ => fun
  | [d] => { results := [.lit (.bool true)], args := [d] }
  | _ => none }
def fnExactStockNewRow : OpenClaim := { program := "ytkbjgmfghhgodaa", sum := "94aeb59ba7e9b575df2b7478bd6fcf3785fe56688aae12e1426c927a1c8d8b4b", func := "loop.example/concierge/laws.FnExactStockNew", spec := "fnExactStockNew", apart := false }
def FnExactStockNewSaid : Prop := fnExactStockNewRow.holds Try.pinned (OpenSpec.ofChange fnExactStockNewSpec)

/-- ITS FALSE NEIGHBOUR: 'it returns false'. Refute it at one input. -/
def fnExactStockNewWrong : ChangeSpec := { name := "fnExactStockNew", fn := fun _ => fun
  | [d] => { results := [.lit (.bool false)], args := [d] }
  | _ => none }
def FnExactStockNewWrongFalsely : Prop := fnExactStockNewRow.holds Try.pinned (OpenSpec.ofChange fnExactStockNewWrong)

/-- 'laws.FnExactRecOk': WHATEVER THE INPUT: true; the input reads as it did. -/
def fnExactRecOkSpec : ChangeSpec := { name := "fnExactRecOk", fn := fun _ => fun
  | [d] => { results := [.lit (.bool true)], args := [d] }
  | _ => none }
def fnExactRecOkRow : OpenClaim := { program := "ytkbjgmfghhgodaa", sum := "94aeb59ba7e9b575df2b7478bd6fcf3785fe56688aae12e1426c927a1c8d8b4b", func := "loop.example/concierge/laws.FnExactRecOk", spec := "fnExactRecOk", unfollowed := true, recurses := true, apart := false }
def FnExactRecOkSaid : Prop := fnExactRecOkRow.holds Try.pinned (OpenSpec.ofChange fnExactRecOkSpec)

/-- ITS FALSE NEIGHBOUR: 'it returns false'. Refute it at one input. -/
def fnExactRecOkWrong : ChangeSpec := { name := "fnExactRecOk", fn := fun _ => fun
  | [d] => { results := [.lit (.bool false)], args := [d] }
  | _ => none }
def FnExactRecOkWrongFalsely : Prop := fnExactRecOkRow.holds Try.pinned (OpenSpec.ofChange fnExactRecOkWrong)

/-- 'laws.FnRecForm': WHATEVER THE INPUT: true; the input reads as it did. -/
def fnRecFormSpec : ChangeSpec := { name := "fnRecForm", fn := fun _ => fun
  | [d] => { results := [.lit (.bool true)], args := [d] }
  | _ => none }
def fnRecFormRow : OpenClaim := { program := "ytkbjgmfghhgodaa", sum := "94aeb59ba7e9b575df2b7478bd6fcf3785fe56688aae12e1426c927a1c8d8b4b", func := "loop.example/concierge/laws.FnRecForm", spec := "fnRecForm", unfollowed := true, recurses := true, apart := false }
def FnRecFormSaid : Prop := fnRecFormRow.holds Try.pinned (OpenSpec.ofChange fnRecFormSpec)

/-- ITS FALSE NEIGHBOUR: 'it returns false'. Refute it at one input. -/
def fnRecFormWrong : ChangeSpec := { name := "fnRecForm", fn := fun _ => fun
  | [d] => { results := [.lit (.bool false)], args := [d] }
  | _ => none }
def FnRecFormWrongFalsely : Prop := fnRecFormRow.holds Try.pinned (OpenSpec.ofChange fnRecFormWrong)

/-- 'laws.FnRecKinds': WHATEVER THE INPUT: true; the input reads as it did. -/
def fnRecKindsSpec : ChangeSpec := { name := "fnRecKinds", fn := fun _ => fun
  | [d1, d2] => { results := [.lit (.bool true)], args := [d1, d2] }
  | _ => none }
def fnRecKindsRow : OpenClaim := { program := "ytkbjgmfghhgodaa", sum := "94aeb59ba7e9b575df2b7478bd6fcf3785fe56688aae12e1426c927a1c8d8b4b", func := "loop.example/concierge/laws.FnRecKinds", spec := "fnRecKinds", unfollowed := true, recurses := true, apart := false }
def FnRecKindsSaid : Prop := fnRecKindsRow.holds Try.pinned (OpenSpec.ofChange fnRecKindsSpec)

/-- ITS FALSE NEIGHBOUR: 'it returns false'. Refute it at one input. -/
def fnRecKindsWrong : ChangeSpec := { name := "fnRecKinds", fn := fun _ => fun
  | [d1, d2] => { results := [.lit (.bool false)], args := [d1, d2] }
  | _ => none }
def FnRecKindsWrongFalsely : Prop := fnRecKindsRow.holds Try.pinned (OpenSpec.ofChange fnRecKindsWrong)

/-- 'laws.FnExactTripsOk': WHATEVER THE INPUT: true; the input reads as it did. -/
def fnExactTripsOkSpec : ChangeSpec := { name := "fnExactTripsOk", fn := fun _ => fun
  | [d] => { results := [.lit (.bool true)], args := [d] }
  | _ => none }
def fnExactTripsOkRow : OpenClaim := { program := "ytkbjgmfghhgodaa", sum := "94aeb59ba7e9b575df2b7478bd6fcf3785fe56688aae12e1426c927a1c8d8b4b", func := "loop.example/concierge/laws.FnExactTripsOk", spec := "fnExactTripsOk", unfollowed := true, recurses := true, apart := false }
def FnExactTripsOkSaid : Prop := fnExactTripsOkRow.holds Try.pinned (OpenSpec.ofChange fnExactTripsOkSpec)

/-- ITS FALSE NEIGHBOUR: 'it returns false'. Refute it at one input. -/
def fnExactTripsOkWrong : ChangeSpec := { name := "fnExactTripsOk", fn := fun _ => fun
  | [d] => { results := [.lit (.bool false)], args := [d] }
  | _ => none }
def FnExactTripsOkWrongFalsely : Prop := fnExactTripsOkRow.holds Try.pinned (OpenSpec.ofChange fnExactTripsOkWrong)

/-- 'laws.FnExactStockOk': WHATEVER THE INPUT: true; the input reads as it did. -/
def fnExactStockOkSpec : ChangeSpec := { name := "fnExactStockOk", fn := fun _ => fun
  | [d] => { results := [.lit (.bool true)], args := [d] }
  | _ => none }
def fnExactStockOkRow : OpenClaim := { program := "ytkbjgmfghhgodaa", sum := "94aeb59ba7e9b575df2b7478bd6fcf3785fe56688aae12e1426c927a1c8d8b4b", func := "loop.example/concierge/laws.FnExactStockOk", spec := "fnExactStockOk", unfollowed := true, recurses := true, apart := false }
def FnExactStockOkSaid : Prop := fnExactStockOkRow.holds Try.pinned (OpenSpec.ofChange fnExactStockOkSpec)

/-- ITS FALSE NEIGHBOUR: 'it returns false'. Refute it at one input. -/
def fnExactStockOkWrong : ChangeSpec := { name := "fnExactStockOk", fn := fun _ => fun
  | [d] => { results := [.lit (.bool false)], args := [d] }
  | _ => none }
def FnExactStockOkWrongFalsely : Prop := fnExactStockOkRow.holds Try.pinned (OpenSpec.ofChange fnExactStockOkWrong)

/-- 'laws.FnExactStockFree': WHATEVER THE INPUT: true; the input reads as it did. -/
def fnExactStockFreeSpec : ChangeSpec := { name := "fnExactStockFree", fn := fun _ => fun
  | [d] => { results := [.lit (.bool true)], args := [d] }
  | _ => none }
def fnExactStockFreeRow : OpenClaim := { program := "ytkbjgmfghhgodaa", sum := "94aeb59ba7e9b575df2b7478bd6fcf3785fe56688aae12e1426c927a1c8d8b4b", func := "loop.example/concierge/laws.FnExactStockFree", spec := "fnExactStockFree", unfollowed := true, recurses := true, apart := false }
def FnExactStockFreeSaid : Prop := fnExactStockFreeRow.holds Try.pinned (OpenSpec.ofChange fnExactStockFreeSpec)

/-- ITS FALSE NEIGHBOUR: 'it returns false'. Refute it at one input. -/
def fnExactStockFreeWrong : ChangeSpec := { name := "fnExactStockFree", fn := fun _ => fun
  | [d] => { results := [.lit (.bool false)], args := [d] }
  | _ => none }
def FnExactStockFreeWrongFalsely : Prop := fnExactStockFreeRow.holds Try.pinned (OpenSpec.ofChange fnExactStockFreeWrong)

/-- 'laws.FnLogLess': WHATEVER THE INPUT: true; the input reads as it did. -/
def fnLogLessSpec : ChangeSpec := { name := "fnLogLess", fn := fun _ => fun
  | [d1, d2] => { results := [.lit (.bool true)], args := [d1, d2] }
  | _ => none }
def fnLogLessRow : OpenClaim := { program := "ytkbjgmfghhgodaa", sum := "94aeb59ba7e9b575df2b7478bd6fcf3785fe56688aae12e1426c927a1c8d8b4b", func := "loop.example/concierge/laws.FnLogLess", spec := "fnLogLess", unfollowed := true, recurses := true, apart := false }
def FnLogLessSaid : Prop := fnLogLessRow.holds Try.pinned (OpenSpec.ofChange fnLogLessSpec)

/-- ITS FALSE NEIGHBOUR: 'it returns false'. Refute it at one input. -/
def fnLogLessWrong : ChangeSpec := { name := "fnLogLess", fn := fun _ => fun
  | [d1, d2] => { results := [.lit (.bool false)], args := [d1, d2] }
  | _ => none }
def FnLogLessWrongFalsely : Prop := fnLogLessRow.holds Try.pinned (OpenSpec.ofChange fnLogLessWrong)

/-- 'laws.FnExactLogOk': WHATEVER THE INPUT: true; the input reads as it did. -/
def fnExactLogOkSpec : ChangeSpec := { name := "fnExactLogOk", fn := fun _ => fun
  | [d] => { results := [.lit (.bool true)], args := [d] }
  | _ => none }
def fnExactLogOkRow : OpenClaim := { program := "ytkbjgmfghhgodaa", sum := "94aeb59ba7e9b575df2b7478bd6fcf3785fe56688aae12e1426c927a1c8d8b4b", func := "loop.example/concierge/laws.FnExactLogOk", spec := "fnExactLogOk", unfollowed := true, recurses := true, apart := false }
def FnExactLogOkSaid : Prop := fnExactLogOkRow.holds Try.pinned (OpenSpec.ofChange fnExactLogOkSpec)

/-- ITS FALSE NEIGHBOUR: 'it returns false'. Refute it at one input. -/
def fnExactLogOkWrong : ChangeSpec := { name := "fnExactLogOk", fn := fun _ => fun
  | [d] => { results := [.lit (.bool false)], args := [d] }
  | _ => none }
def FnExactLogOkWrongFalsely : Prop := fnExactLogOkRow.holds Try.pinned (OpenSpec.ofChange fnExactLogOkWrong)

/- THE SECOND FORM. 'bulk': how many values and letters a reading holds, each counted each time it is reached (what is shared counts as often as it is met; a slice's spare places count too). A statement '..UptoSaid' is the law's where the arguments, and the package variables that the reading takes, are together of bulk at most 1048576: NARROWER than '..Said'. Prove '..Said' where nothing that the law and all that it calls make is longer than what came in: it says more and counts as full. Else prove '..UptoSaid'. A law counts once. -/
mutual
def uptoBulk {H : Type} : DataW H → Nat
  | .lit (.string bytes) => bytes.length + 1
  | .lit _ => 1
  | .nil => 1
  | .ptr d => uptoBulk d + 1
  | .slice elems spare => uptoBulkAll elems + uptoBulkAll spare + 1
  | .agg parts => uptoBulkAll parts + 1
  | .iface _ d => uptoBulk d + 1
  | .map entries => uptoBulkEntries entries + 1
  | .held _ => 1
def uptoBulkAll {H : Type} : List (DataW H) → Nat
  | [] => 0
  | d :: r => uptoBulk d + uptoBulkAll r
def uptoBulkEntries {H : Type} : List (Lit × DataW H) → Nat
  | [] => 0
  | x :: r => uptoBulkEntry x + uptoBulkEntries r
def uptoBulkEntry {H : Type} : Lit × DataW H → Nat
  | (.string bytes, d) => bytes.length + uptoBulk d + 1
  | (_, d) => uptoBulk d + 1
 end
def uptoSmall : (H : Type) → List (DataW H) → Bool := fun _ ds => decide (uptoBulkAll ds ≤ 1048576)
def OpenSpec.upto (s : _root_.Go.ChangeSpec) : _root_.Go.OpenSpec := { _root_.Go.OpenSpec.ofChange s with cond := some uptoSmall }

/-- 'laws.FnExactConstants', WHERE WHAT IT READS IS OF BULK AT MOST 1048576: true; the input reads as it did. -/
def fnExactConstantsUptoRow : OpenClaim := { program := "ytkbjgmfghhgodaa", sum := "94aeb59ba7e9b575df2b7478bd6fcf3785fe56688aae12e1426c927a1c8d8b4b", func := "loop.example/concierge/laws.FnExactConstants", spec := "fnExactConstants", apart := false, narrowed := true }
def FnExactConstantsUptoSaid : Prop := fnExactConstantsUptoRow.holds Try.pinned (OpenSpec.upto fnExactConstantsSpec)

/-- 'laws.FnExactWordOk', WHERE WHAT IT READS IS OF BULK AT MOST 1048576: true; the input reads as it did. -/
def fnExactWordOkUptoRow : OpenClaim := { program := "ytkbjgmfghhgodaa", sum := "94aeb59ba7e9b575df2b7478bd6fcf3785fe56688aae12e1426c927a1c8d8b4b", func := "loop.example/concierge/laws.FnExactWordOk", spec := "fnExactWordOk", apart := false, narrowed := true }
def FnExactWordOkUptoSaid : Prop := fnExactWordOkUptoRow.holds Try.pinned (OpenSpec.upto fnExactWordOkSpec)

/-- 'laws.FnWordForm', WHERE WHAT IT READS IS OF BULK AT MOST 1048576: true; the input reads as it did. -/
def fnWordFormUptoRow : OpenClaim := { program := "ytkbjgmfghhgodaa", sum := "94aeb59ba7e9b575df2b7478bd6fcf3785fe56688aae12e1426c927a1c8d8b4b", func := "loop.example/concierge/laws.FnWordForm", spec := "fnWordForm", apart := false, narrowed := true }
def FnWordFormUptoSaid : Prop := fnWordFormUptoRow.holds Try.pinned (OpenSpec.upto fnWordFormSpec)

/-- 'laws.FnExactStockNew', WHERE WHAT IT READS IS OF BULK AT MOST 1048576: true; the input reads as it did. -/
def fnExactStockNewUptoRow : OpenClaim := { program := "ytkbjgmfghhgodaa", sum := "94aeb59ba7e9b575df2b7478bd6fcf3785fe56688aae12e1426c927a1c8d8b4b", func := "loop.example/concierge/laws.FnExactStockNew", spec := "fnExactStockNew", apart := false, narrowed := true }
def FnExactStockNewUptoSaid : Prop := fnExactStockNewUptoRow.holds Try.pinned (OpenSpec.upto fnExactStockNewSpec)

/-- 'laws.FnExactRecOk', WHERE WHAT IT READS IS OF BULK AT MOST 1048576: true; the input reads as it did. -/
def fnExactRecOkUptoRow : OpenClaim := { program := "ytkbjgmfghhgodaa", sum := "94aeb59ba7e9b575df2b7478bd6fcf3785fe56688aae12e1426c927a1c8d8b4b", func := "loop.example/concierge/laws.FnExactRecOk", spec := "fnExactRecOk", unfollowed := true, recurses := true, apart := false, narrowed := true }
def FnExactRecOkUptoSaid : Prop := fnExactRecOkUptoRow.holds Try.pinned (OpenSpec.upto fnExactRecOkSpec)

/-- 'laws.FnRecForm', WHERE WHAT IT READS IS OF BULK AT MOST 1048576: true; the input reads as it did. -/
def fnRecFormUptoRow : OpenClaim := { program := "ytkbjgmfghhgodaa", sum := "94aeb59ba7e9b575df2b7478bd6fcf3785fe56688aae12e1426c927a1c8d8b4b", func := "loop.example/concierge/laws.FnRecForm", spec := "fnRecForm", unfollowed := true, recurses := true, apart := false, narrowed := true }
def FnRecFormUptoSaid : Prop := fnRecFormUptoRow.holds Try.pinned (OpenSpec.upto fnRecFormSpec)

/-- 'laws.FnRecKinds', WHERE WHAT IT READS IS OF BULK AT MOST 1048576: true; the input reads as it did. -/
def fnRecKindsUptoRow : OpenClaim := { program := "ytkbjgmfghhgodaa", sum := "94aeb59ba7e9b575df2b7478bd6fcf3785fe56688aae12e1426c927a1c8d8b4b", func := "loop.example/concierge/laws.FnRecKinds", spec := "fnRecKinds", unfollowed := true, recurses := true, apart := false, narrowed := true }
def FnRecKindsUptoSaid : Prop := fnRecKindsUptoRow.holds Try.pinned (OpenSpec.upto fnRecKindsSpec)

/-- 'laws.FnExactTripsOk', WHERE WHAT IT READS IS OF BULK AT MOST 1048576: true; the input reads as it did. -/
def fnExactTripsOkUptoRow : OpenClaim := { program := "ytkbjgmfghhgodaa", sum := "94aeb59ba7e9b575df2b7478bd6fcf3785fe56688aae12e1426c927a1c8d8b4b", func := "loop.example/concierge/laws.FnExactTripsOk", spec := "fnExactTripsOk", unfollowed := true, recurses := true, apart := false, narrowed := true }
def FnExactTripsOkUptoSaid : Prop := fnExactTripsOkUptoRow.holds Try.pinned (OpenSpec.upto fnExactTripsOkSpec)

/-- 'laws.FnExactStockOk', WHERE WHAT IT READS IS OF BULK AT MOST 1048576: true; the input reads as it did. -/
def fnExactStockOkUptoRow : OpenClaim := { program := "ytkbjgmfghhgodaa", sum := "94aeb59ba7e9b575df2b7478bd6fcf3785fe56688aae12e1426c927a1c8d8b4b", func := "loop.example/concierge/laws.FnExactStockOk", spec := "fnExactStockOk", unfollowed := true, recurses := true, apart := false, narrowed := true }
def FnExactStockOkUptoSaid : Prop := fnExactStockOkUptoRow.holds Try.pinned (OpenSpec.upto fnExactStockOkSpec)

/-- 'laws.FnExactStockFree', WHERE WHAT IT READS IS OF BULK AT MOST 1048576: true; the input reads as it did. -/
def fnExactStockFreeUptoRow : OpenClaim := { program := "ytkbjgmfghhgodaa", sum := "94aeb59ba7e9b575df2b7478bd6fcf3785fe56688aae12e1426c927a1c8d8b4b", func := "loop.example/concierge/laws.FnExactStockFree", spec := "fnExactStockFree", unfollowed := true, recurses := true, apart := false, narrowed := true }
def FnExactStockFreeUptoSaid : Prop := fnExactStockFreeUptoRow.holds Try.pinned (OpenSpec.upto fnExactStockFreeSpec)

/-- 'laws.FnLogLess', WHERE WHAT IT READS IS OF BULK AT MOST 1048576: true; the input reads as it did. -/
def fnLogLessUptoRow : OpenClaim := { program := "ytkbjgmfghhgodaa", sum := "94aeb59ba7e9b575df2b7478bd6fcf3785fe56688aae12e1426c927a1c8d8b4b", func := "loop.example/concierge/laws.FnLogLess", spec := "fnLogLess", unfollowed := true, recurses := true, apart := false, narrowed := true }
def FnLogLessUptoSaid : Prop := fnLogLessUptoRow.holds Try.pinned (OpenSpec.upto fnLogLessSpec)

/-- 'laws.FnExactLogOk', WHERE WHAT IT READS IS OF BULK AT MOST 1048576: true; the input reads as it did. -/
def fnExactLogOkUptoRow : OpenClaim := { program := "ytkbjgmfghhgodaa", sum := "94aeb59ba7e9b575df2b7478bd6fcf3785fe56688aae12e1426c927a1c8d8b4b", func := "loop.example/concierge/laws.FnExactLogOk", spec := "fnExactLogOk", unfollowed := true, recurses := true, apart := false, narrowed := true }
def FnExactLogOkUptoSaid : Prop := fnExactLogOkUptoRow.holds Try.pinned (OpenSpec.upto fnExactLogOkSpec)

end Rows
end Go.Proofs.Ytkbjgmfghhgodaa
