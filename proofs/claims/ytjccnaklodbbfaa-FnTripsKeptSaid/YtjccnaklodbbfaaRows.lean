/-
  No cell of these rows narrows 'for every input' (looked for: loops, veiled, ifaces, maps, wideKeys, modest, calm, conditions, laid).
  DERIVED. THE GIVEN ROWS OF THIS SEAT. 12 by the template 'for every input the law returns true; each argument reads behind the call as it read before'; 0 by the template 'total and deterministic' (their statements: YtjccnaklodbbfaaTotals.lean).
  GIVEN WITH THE SEED: the statements are not yours to turn. If you find one false, say at which input.
  Laid BY PROGRAM, IN A SANDBOX (cutbox-rows.mjs): the forced cells as the released guide's own fill.sh prints them over the translation bbcd1099f686dc99… (all of the seat's roots in one cut). By AI agents, Wed Nov 11 2026. No macro, syntax, notation, axiom, sorry.
-/
import Derived.Test.YtjccnaklodbbfaaChecked
import GoSem.Claim
import GoSem.ClaimJoined
import GoSem.ClaimMapViews
import Derived.JoinedTies
import Derived.KernelRfl
namespace Go.Proofs.Ytjccnaklodbbfaa
/- THE CELL 'sum', in the pinned program and in every row, IS THE sha256 OF THE DUMP (.gsa) THAT YtjccnaklodbbfaaProg.lean LOADS. Nothing in Lean hashes anything: it is a label: what it is worth is what the hold of that sum in a sandbox is worth. -/
noncomputable def Try.pinned : Pinned := { name := "ytjccnaklodbbfaa", sum := "bbcd1099f686dc99281622bd107c08265a201f8e9734d85a4e2a01ef2f2e9461", checked := Try.checked }
namespace Rows
def none {H : Type} : Left H := { results := [], args := [] }

/-- 'laws.FnExactHouseNew': WHATEVER THE INPUT: true; the input reads as it did. -/
def fnExactHouseNewSpec : ChangeSpec := { name := "fnExactHouseNew", fn := fun _ => fun
  | [d1, d2] => { results := [.lit (.bool true)], args := [d1, d2] }
  | _ => none }
def fnExactHouseNewRow : OpenClaim := { program := "ytjccnaklodbbfaa", sum := "bbcd1099f686dc99281622bd107c08265a201f8e9734d85a4e2a01ef2f2e9461", func := "loop.example/concierge/laws.FnExactHouseNew", spec := "fnExactHouseNew", apart := false }
def FnExactHouseNewSaid : Prop := fnExactHouseNewRow.holds Try.pinned (OpenSpec.ofChange fnExactHouseNewSpec)

/-- ITS FALSE NEIGHBOUR: 'it returns false'. Refute it at one input. -/
def fnExactHouseNewWrong : ChangeSpec := { name := "fnExactHouseNew", fn := fun _ => fun
  | [d1, d2] => { results := [.lit (.bool false)], args := [d1, d2] }
  | _ => none }
def FnExactHouseNewWrongFalsely : Prop := fnExactHouseNewRow.holds Try.pinned (OpenSpec.ofChange fnExactHouseNewWrong)

/-- 'laws.FnStockNew': WHATEVER THE INPUT: true; the input reads as it did. -/
def fnStockNewSpec : ChangeSpec := { name := "fnStockNew", fn := fun _ => fun
  | [d] => { results := [.lit (.bool true)], args := [d] }
  | _ => none }
def fnStockNewRow : OpenClaim := { program := "ytjccnaklodbbfaa", sum := "bbcd1099f686dc99281622bd107c08265a201f8e9734d85a4e2a01ef2f2e9461", func := "loop.example/concierge/laws.FnStockNew", spec := "fnStockNew", unfollowed := true, recurses := true, apart := false }
def FnStockNewSaid : Prop := fnStockNewRow.holds Try.pinned (OpenSpec.ofChange fnStockNewSpec)

/-- ITS FALSE NEIGHBOUR: 'it returns false'. Refute it at one input. -/
def fnStockNewWrong : ChangeSpec := { name := "fnStockNew", fn := fun _ => fun
  | [d] => { results := [.lit (.bool false)], args := [d] }
  | _ => none }
def FnStockNewWrongFalsely : Prop := fnStockNewRow.holds Try.pinned (OpenSpec.ofChange fnStockNewWrong)

/-- 'laws.FnStockLess': WHATEVER THE INPUT: true; the input reads as it did. -/
def fnStockLessSpec : ChangeSpec := { name := "fnStockLess", fn := fun _ => fun
  | [d1, d2] => { results := [.lit (.bool true)], args := [d1, d2] }
  | _ => none }
def fnStockLessRow : OpenClaim := { program := "ytjccnaklodbbfaa", sum := "bbcd1099f686dc99281622bd107c08265a201f8e9734d85a4e2a01ef2f2e9461", func := "loop.example/concierge/laws.FnStockLess", spec := "fnStockLess", unfollowed := true, recurses := true, apart := false }
def FnStockLessSaid : Prop := fnStockLessRow.holds Try.pinned (OpenSpec.ofChange fnStockLessSpec)

/-- ITS FALSE NEIGHBOUR: 'it returns false'. Refute it at one input. -/
def fnStockLessWrong : ChangeSpec := { name := "fnStockLess", fn := fun _ => fun
  | [d1, d2] => { results := [.lit (.bool false)], args := [d1, d2] }
  | _ => none }
def FnStockLessWrongFalsely : Prop := fnStockLessRow.holds Try.pinned (OpenSpec.ofChange fnStockLessWrong)

/-- 'laws.FnStockFree': WHATEVER THE INPUT: true; the input reads as it did. -/
def fnStockFreeSpec : ChangeSpec := { name := "fnStockFree", fn := fun _ => fun
  | [d] => { results := [.lit (.bool true)], args := [d] }
  | _ => none }
def fnStockFreeRow : OpenClaim := { program := "ytjccnaklodbbfaa", sum := "bbcd1099f686dc99281622bd107c08265a201f8e9734d85a4e2a01ef2f2e9461", func := "loop.example/concierge/laws.FnStockFree", spec := "fnStockFree", unfollowed := true, recurses := true, apart := false }
def FnStockFreeSaid : Prop := fnStockFreeRow.holds Try.pinned (OpenSpec.ofChange fnStockFreeSpec)

/-- ITS FALSE NEIGHBOUR: 'it returns false'. Refute it at one input. -/
def fnStockFreeWrong : ChangeSpec := { name := "fnStockFree", fn := fun _ => fun
  | [d] => { results := [.lit (.bool false)], args := [d] }
  | _ => none }
def FnStockFreeWrongFalsely : Prop := fnStockFreeRow.holds Try.pinned (OpenSpec.ofChange fnStockFreeWrong)

/-- 'laws.FnHouseNew': WHATEVER THE INPUT: true; the input reads as it did. -/
def fnHouseNewSpec : ChangeSpec := { name := "fnHouseNew", fn := fun _ => fun
  | [d] => { results := [.lit (.bool true)], args := [d] }
  | _ => none }
def fnHouseNewRow : OpenClaim := { program := "ytjccnaklodbbfaa", sum := "bbcd1099f686dc99281622bd107c08265a201f8e9734d85a4e2a01ef2f2e9461", func := "loop.example/concierge/laws.FnHouseNew", spec := "fnHouseNew", unfollowed := true, recurses := true, apart := false }
def FnHouseNewSaid : Prop := fnHouseNewRow.holds Try.pinned (OpenSpec.ofChange fnHouseNewSpec)

/-- ITS FALSE NEIGHBOUR: 'it returns false'. Refute it at one input. -/
def fnHouseNewWrong : ChangeSpec := { name := "fnHouseNew", fn := fun _ => fun
  | [d] => { results := [.lit (.bool false)], args := [d] }
  | _ => none }
def FnHouseNewWrongFalsely : Prop := fnHouseNewRow.holds Try.pinned (OpenSpec.ofChange fnHouseNewWrong)

/-- 'laws.FnExactStockMay': WHATEVER THE INPUT: true; the input reads as it did. -/
def fnExactStockMaySpec : ChangeSpec := { name := "fnExactStockMay", fn := fun _ => fun
  | [d1, d2] => { results := [.lit (.bool true)], args := [d1, d2] }
  | _ => none }
def fnExactStockMayRow : OpenClaim := { program := "ytjccnaklodbbfaa", sum := "bbcd1099f686dc99281622bd107c08265a201f8e9734d85a4e2a01ef2f2e9461", func := "loop.example/concierge/laws.FnExactStockMay", spec := "fnExactStockMay", unfollowed := true, recurses := true, apart := false }
def FnExactStockMaySaid : Prop := fnExactStockMayRow.holds Try.pinned (OpenSpec.ofChange fnExactStockMaySpec)

/-- ITS FALSE NEIGHBOUR: 'it returns false'. Refute it at one input. -/
def fnExactStockMayWrong : ChangeSpec := { name := "fnExactStockMay", fn := fun _ => fun
  | [d1, d2] => { results := [.lit (.bool false)], args := [d1, d2] }
  | _ => none }
def FnExactStockMayWrongFalsely : Prop := fnExactStockMayRow.holds Try.pinned (OpenSpec.ofChange fnExactStockMayWrong)

/-- 'laws.FnStockMay': WHATEVER THE INPUT: true; the input reads as it did. -/
def fnStockMaySpec : ChangeSpec := { name := "fnStockMay", fn := fun _ => fun
  | [d] => { results := [.lit (.bool true)], args := [d] }
  | _ => none }
def fnStockMayRow : OpenClaim := { program := "ytjccnaklodbbfaa", sum := "bbcd1099f686dc99281622bd107c08265a201f8e9734d85a4e2a01ef2f2e9461", func := "loop.example/concierge/laws.FnStockMay", spec := "fnStockMay", unfollowed := true, recurses := true, apart := false }
def FnStockMaySaid : Prop := fnStockMayRow.holds Try.pinned (OpenSpec.ofChange fnStockMaySpec)

/-- ITS FALSE NEIGHBOUR: 'it returns false'. Refute it at one input. -/
def fnStockMayWrong : ChangeSpec := { name := "fnStockMay", fn := fun _ => fun
  | [d] => { results := [.lit (.bool false)], args := [d] }
  | _ => none }
def FnStockMayWrongFalsely : Prop := fnStockMayRow.holds Try.pinned (OpenSpec.ofChange fnStockMayWrong)

/-- 'laws.FnTripsLess': WHATEVER THE INPUT: true; the input reads as it did. -/
def fnTripsLessSpec : ChangeSpec := { name := "fnTripsLess", fn := fun _ => fun
  | [d1, d2] => { results := [.lit (.bool true)], args := [d1, d2] }
  | _ => none }
def fnTripsLessRow : OpenClaim := { program := "ytjccnaklodbbfaa", sum := "bbcd1099f686dc99281622bd107c08265a201f8e9734d85a4e2a01ef2f2e9461", func := "loop.example/concierge/laws.FnTripsLess", spec := "fnTripsLess", unfollowed := true, recurses := true, apart := false }
def FnTripsLessSaid : Prop := fnTripsLessRow.holds Try.pinned (OpenSpec.ofChange fnTripsLessSpec)

/-- ITS FALSE NEIGHBOUR: 'it returns false'. Refute it at one input. -/
def fnTripsLessWrong : ChangeSpec := { name := "fnTripsLess", fn := fun _ => fun
  | [d1, d2] => { results := [.lit (.bool false)], args := [d1, d2] }
  | _ => none }
def FnTripsLessWrongFalsely : Prop := fnTripsLessRow.holds Try.pinned (OpenSpec.ofChange fnTripsLessWrong)

/-- 'laws.FnExactTripsMay': WHATEVER THE INPUT: true; the input reads as it did. -/
def fnExactTripsMaySpec : ChangeSpec := { name := "fnExactTripsMay", fn := fun _ => fun
  | [d1, d2] => { results := [.lit (.bool true)], args := [d1, d2] }
  | _ => none }
def fnExactTripsMayRow : OpenClaim := { program := "ytjccnaklodbbfaa", sum := "bbcd1099f686dc99281622bd107c08265a201f8e9734d85a4e2a01ef2f2e9461", func := "loop.example/concierge/laws.FnExactTripsMay", spec := "fnExactTripsMay", unfollowed := true, recurses := true, apart := false }
def FnExactTripsMaySaid : Prop := fnExactTripsMayRow.holds Try.pinned (OpenSpec.ofChange fnExactTripsMaySpec)

/-- ITS FALSE NEIGHBOUR: 'it returns false'. Refute it at one input. -/
def fnExactTripsMayWrong : ChangeSpec := { name := "fnExactTripsMay", fn := fun _ => fun
  | [d1, d2] => { results := [.lit (.bool false)], args := [d1, d2] }
  | _ => none }
def FnExactTripsMayWrongFalsely : Prop := fnExactTripsMayRow.holds Try.pinned (OpenSpec.ofChange fnExactTripsMayWrong)

/-- 'laws.FnTripsBegin': WHATEVER THE INPUT: true; the input reads as it did. -/
def fnTripsBeginSpec : ChangeSpec := { name := "fnTripsBegin", fn := fun _ => fun
  | [d1, d2] => { results := [.lit (.bool true)], args := [d1, d2] }
  | _ => none }
def fnTripsBeginRow : OpenClaim := { program := "ytjccnaklodbbfaa", sum := "bbcd1099f686dc99281622bd107c08265a201f8e9734d85a4e2a01ef2f2e9461", func := "loop.example/concierge/laws.FnTripsBegin", spec := "fnTripsBegin", unfollowed := true, recurses := true, apart := false }
def FnTripsBeginSaid : Prop := fnTripsBeginRow.holds Try.pinned (OpenSpec.ofChange fnTripsBeginSpec)

/-- ITS FALSE NEIGHBOUR: 'it returns false'. Refute it at one input. -/
def fnTripsBeginWrong : ChangeSpec := { name := "fnTripsBegin", fn := fun _ => fun
  | [d1, d2] => { results := [.lit (.bool false)], args := [d1, d2] }
  | _ => none }
def FnTripsBeginWrongFalsely : Prop := fnTripsBeginRow.holds Try.pinned (OpenSpec.ofChange fnTripsBeginWrong)

/-- 'laws.FnTripsMay': WHATEVER THE INPUT: true; the input reads as it did. -/
def fnTripsMaySpec : ChangeSpec := { name := "fnTripsMay", fn := fun _ => fun
  | [d] => { results := [.lit (.bool true)], args := [d] }
  | _ => none }
def fnTripsMayRow : OpenClaim := { program := "ytjccnaklodbbfaa", sum := "bbcd1099f686dc99281622bd107c08265a201f8e9734d85a4e2a01ef2f2e9461", func := "loop.example/concierge/laws.FnTripsMay", spec := "fnTripsMay", unfollowed := true, recurses := true, apart := false }
def FnTripsMaySaid : Prop := fnTripsMayRow.holds Try.pinned (OpenSpec.ofChange fnTripsMaySpec)

/-- ITS FALSE NEIGHBOUR: 'it returns false'. Refute it at one input. -/
def fnTripsMayWrong : ChangeSpec := { name := "fnTripsMay", fn := fun _ => fun
  | [d] => { results := [.lit (.bool false)], args := [d] }
  | _ => none }
def FnTripsMayWrongFalsely : Prop := fnTripsMayRow.holds Try.pinned (OpenSpec.ofChange fnTripsMayWrong)

/-- 'laws.FnTripsKept': WHATEVER THE INPUT: true; the input reads as it did. -/
def fnTripsKeptSpec : ChangeSpec := { name := "fnTripsKept", fn := fun _ => fun
  | [d] => { results := [.lit (.bool true)], args := [d] }
  | _ => none }
def fnTripsKeptRow : OpenClaim := { program := "ytjccnaklodbbfaa", sum := "bbcd1099f686dc99281622bd107c08265a201f8e9734d85a4e2a01ef2f2e9461", func := "loop.example/concierge/laws.FnTripsKept", spec := "fnTripsKept", unfollowed := true, recurses := true, apart := false }
def FnTripsKeptSaid : Prop := fnTripsKeptRow.holds Try.pinned (OpenSpec.ofChange fnTripsKeptSpec)

/-- ITS FALSE NEIGHBOUR: 'it returns false'. Refute it at one input. -/
def fnTripsKeptWrong : ChangeSpec := { name := "fnTripsKept", fn := fun _ => fun
  | [d] => { results := [.lit (.bool false)], args := [d] }
  | _ => none }
def FnTripsKeptWrongFalsely : Prop := fnTripsKeptRow.holds Try.pinned (OpenSpec.ofChange fnTripsKeptWrong)

/- THE SECOND FORM. 'bulk': how many values and letters a reading holds, each counted each time it is reached (what is shared counts as often as it is met; a slice's spare places count too). A statement '..UptoSaid' is the law's where the arguments, and the package variables that the reading takes, are together of bulk at most 1048576: NARROWER than '..Said'. Prove '..Said' where nothing that the law and all that it calls make is longer than what came in: it says more and counts as full. Else prove '..UptoSaid'. A law counts once. -/
mutual
def uptoBulk {H : Type} : DataW H → Nat
  | .lit (.string bytes) => bytes.length + 1
  | .lit _ => 1
  | .nil => 1
  | .ptr d => uptoBulk d + 1
  | .slice elems spare => uptoBulkAll elems + uptoBulkAll spare + 1
  | .agg parts => uptoBulkAll parts + 1
  | .iface _ d => uptoBulk d + 1
  | .map entries => uptoBulkEntries entries + 1
  | .held _ => 1
def uptoBulkAll {H : Type} : List (DataW H) → Nat
  | [] => 0
  | d :: r => uptoBulk d + uptoBulkAll r
def uptoBulkEntries {H : Type} : List (Lit × DataW H) → Nat
  | [] => 0
  | x :: r => uptoBulkEntry x + uptoBulkEntries r
def uptoBulkEntry {H : Type} : Lit × DataW H → Nat
  | (.string bytes, d) => bytes.length + uptoBulk d + 1
  | (_, d) => uptoBulk d + 1
 end
def uptoSmall : (H : Type) → List (DataW H) → Bool := fun _ ds => decide (uptoBulkAll ds ≤ 1048576)
def OpenSpec.upto (s : _root_.Go.ChangeSpec) : _root_.Go.OpenSpec := { _root_.Go.OpenSpec.ofChange s with cond := some uptoSmall }

/-- 'laws.FnExactHouseNew', WHERE WHAT IT READS IS OF BULK AT MOST 1048576: true; the input reads as it did. -/
def fnExactHouseNewUptoRow : OpenClaim := { program := "ytjccnaklodbbfaa", sum := "bbcd1099f686dc99281622bd107c08265a201f8e9734d85a4e2a01ef2f2e9461", func := "loop.example/concierge/laws.FnExactHouseNew", spec := "fnExactHouseNew", apart := false, narrowed := true }
def FnExactHouseNewUptoSaid : Prop := fnExactHouseNewUptoRow.holds Try.pinned (OpenSpec.upto fnExactHouseNewSpec)

/-- 'laws.FnStockNew', WHERE WHAT IT READS IS OF BULK AT MOST 1048576: true; the input reads as it did. -/
def fnStockNewUptoRow : OpenClaim := { program := "ytjccnaklodbbfaa", sum := "bbcd1099f686dc99281622bd107c08265a201f8e9734d85a4e2a01ef2f2e9461", func := "loop.example/concierge/laws.FnStockNew", spec := "fnStockNew", unfollowed := true, recurses := true, apart := false, narrowed := true }
def FnStockNewUptoSaid : Prop := fnStockNewUptoRow.holds Try.pinned (OpenSpec.upto fnStockNewSpec)

/-- 'laws.FnStockLess', WHERE WHAT IT READS IS OF BULK AT MOST 1048576: true; the input reads as it did. -/
def fnStockLessUptoRow : OpenClaim := { program := "ytjccnaklodbbfaa", sum := "bbcd1099f686dc99281622bd107c08265a201f8e9734d85a4e2a01ef2f2e9461", func := "loop.example/concierge/laws.FnStockLess", spec := "fnStockLess", unfollowed := true, recurses := true, apart := false, narrowed := true }
def FnStockLessUptoSaid : Prop := fnStockLessUptoRow.holds Try.pinned (OpenSpec.upto fnStockLessSpec)

/-- 'laws.FnStockFree', WHERE WHAT IT READS IS OF BULK AT MOST 1048576: true; the input reads as it did. -/
def fnStockFreeUptoRow : OpenClaim := { program := "ytjccnaklodbbfaa", sum := "bbcd1099f686dc99281622bd107c08265a201f8e9734d85a4e2a01ef2f2e9461", func := "loop.example/concierge/laws.FnStockFree", spec := "fnStockFree", unfollowed := true, recurses := true, apart := false, narrowed := true }
def FnStockFreeUptoSaid : Prop := fnStockFreeUptoRow.holds Try.pinned (OpenSpec.upto fnStockFreeSpec)

/-- 'laws.FnHouseNew', WHERE WHAT IT READS IS OF BULK AT MOST 1048576: true; the input reads as it did. -/
def fnHouseNewUptoRow : OpenClaim := { program := "ytjccnaklodbbfaa", sum := "bbcd1099f686dc99281622bd107c08265a201f8e9734d85a4e2a01ef2f2e9461", func := "loop.example/concierge/laws.FnHouseNew", spec := "fnHouseNew", unfollowed := true, recurses := true, apart := false, narrowed := true }
def FnHouseNewUptoSaid : Prop := fnHouseNewUptoRow.holds Try.pinned (OpenSpec.upto fnHouseNewSpec)

/-- 'laws.FnExactStockMay', WHERE WHAT IT READS IS OF BULK AT MOST 1048576: true; the input reads as it did. -/
def fnExactStockMayUptoRow : OpenClaim := { program := "ytjccnaklodbbfaa", sum := "bbcd1099f686dc99281622bd107c08265a201f8e9734d85a4e2a01ef2f2e9461", func := "loop.example/concierge/laws.FnExactStockMay", spec := "fnExactStockMay", unfollowed := true, recurses := true, apart := false, narrowed := true }
def FnExactStockMayUptoSaid : Prop := fnExactStockMayUptoRow.holds Try.pinned (OpenSpec.upto fnExactStockMaySpec)

/-- 'laws.FnStockMay', WHERE WHAT IT READS IS OF BULK AT MOST 1048576: true; the input reads as it did. -/
def fnStockMayUptoRow : OpenClaim := { program := "ytjccnaklodbbfaa", sum := "bbcd1099f686dc99281622bd107c08265a201f8e9734d85a4e2a01ef2f2e9461", func := "loop.example/concierge/laws.FnStockMay", spec := "fnStockMay", unfollowed := true, recurses := true, apart := false, narrowed := true }
def FnStockMayUptoSaid : Prop := fnStockMayUptoRow.holds Try.pinned (OpenSpec.upto fnStockMaySpec)

/-- 'laws.FnTripsLess', WHERE WHAT IT READS IS OF BULK AT MOST 1048576: true; the input reads as it did. -/
def fnTripsLessUptoRow : OpenClaim := { program := "ytjccnaklodbbfaa", sum := "bbcd1099f686dc99281622bd107c08265a201f8e9734d85a4e2a01ef2f2e9461", func := "loop.example/concierge/laws.FnTripsLess", spec := "fnTripsLess", unfollowed := true, recurses := true, apart := false, narrowed := true }
def FnTripsLessUptoSaid : Prop := fnTripsLessUptoRow.holds Try.pinned (OpenSpec.upto fnTripsLessSpec)

/-- 'laws.FnExactTripsMay', WHERE WHAT IT READS IS OF BULK AT MOST 1048576: true; the input reads as it did. -/
def fnExactTripsMayUptoRow : OpenClaim := { program := "ytjccnaklodbbfaa", sum := "bbcd1099f686dc99281622bd107c08265a201f8e9734d85a4e2a01ef2f2e9461", func := "loop.example/concierge/laws.FnExactTripsMay", spec := "fnExactTripsMay", unfollowed := true, recurses := true, apart := false, narrowed := true }
def FnExactTripsMayUptoSaid : Prop := fnExactTripsMayUptoRow.holds Try.pinned (OpenSpec.upto fnExactTripsMaySpec)

/-- 'laws.FnTripsBegin', WHERE WHAT IT READS IS OF BULK AT MOST 1048576: true; the input reads as it did. -/
def fnTripsBeginUptoRow : OpenClaim := { program := "ytjccnaklodbbfaa", sum := "bbcd1099f686dc99281622bd107c08265a201f8e9734d85a4e2a01ef2f2e9461", func := "loop.example/concierge/laws.FnTripsBegin", spec := "fnTripsBegin", unfollowed := true, recurses := true, apart := false, narrowed := true }
def FnTripsBeginUptoSaid : Prop := fnTripsBeginUptoRow.holds Try.pinned (OpenSpec.upto fnTripsBeginSpec)

/-- 'laws.FnTripsMay', WHERE WHAT IT READS IS OF BULK AT MOST 1048576: true; the input reads as it did. -/
def fnTripsMayUptoRow : OpenClaim := { program := "ytjccnaklodbbfaa", sum := "bbcd1099f686dc99281622bd107c08265a201f8e9734d85a4e2a01ef2f2e9461", func := "loop.example/concierge/laws.FnTripsMay", spec := "fnTripsMay", unfollowed := true, recurses := true, apart := false, narrowed := true }
def FnTripsMayUptoSaid : Prop := fnTripsMayUptoRow.holds Try.pinned (OpenSpec.upto fnTripsMaySpec)

/-- 'laws.FnTripsKept', WHERE WHAT IT READS IS OF BULK AT MOST 1048576: true; the input reads as it did. -/
def fnTripsKeptUptoRow : OpenClaim := { program := "ytjccnaklodbbfaa", sum := "bbcd1099f686dc99281622bd107c08265a201f8e9734d85a4e2a01ef2f2e9461", func := "loop.example/concierge/laws.FnTripsKept", spec := "fnTripsKept", unfollowed := true, recurses := true, apart := false, narrowed := true }
def FnTripsKeptUptoSaid : Prop := fnTripsKeptUptoRow.holds Try.pinned (OpenSpec.upto fnTripsKeptSpec)

end Rows
end Go.Proofs.Ytjccnaklodbbfaa
