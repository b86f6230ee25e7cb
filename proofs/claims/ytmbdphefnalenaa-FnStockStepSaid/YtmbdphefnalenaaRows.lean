/-
  No cell of these rows narrows 'for every input' (looked for: loops, veiled, ifaces, maps, wideKeys, modest, calm, conditions, laid).
  DERIVED. THE GIVEN ROWS OF THIS SEAT. 12 by the template 'for every input the law returns true; each argument reads behind the call as it read before'; 0 by the template 'total and deterministic' (their statements: YtmbdphefnalenaaTotals.lean).
  GIVEN WITH THE SEED: the statements are not yours to turn. If you find one false, say at which input.
  Laid BY PROGRAM, IN A SANDBOX (cutbox-rows.mjs): the forced cells as the released guide's own fill.sh prints them over the translation a7b27de1848f0bc1… (all of the seat's roots in one cut). By AI agents, Wed Nov 11 2026. No macro, syntax, notation, axiom, sorry.
-/
import Derived.Test.YtmbdphefnalenaaChecked
import GoSem.Claim
import GoSem.ClaimJoined
import GoSem.ClaimMapViews
import Derived.JoinedTies
import Derived.KernelRfl
namespace Go.Proofs.Ytmbdphefnalenaa
/- THE CELL 'sum', in the pinned program and in every row, IS THE sha256 OF THE DUMP (.gsa) THAT YtmbdphefnalenaaProg.lean LOADS. Nothing in Lean hashes anything: it is a label: what it is worth is what the hold of that sum in a sandbox is worth. -/
noncomputable def Try.pinned : Pinned := { name := "ytmbdphefnalenaa", sum := "a7b27de1848f0bc13a5f136fb113d6317dea9f60d79c1e6419ddebe5d18e8fd1", checked := Try.checked }
namespace Rows
def none {H : Type} : Left H := { results := [], args := [] }

/-- 'laws.FnTripsOf': WHATEVER THE INPUT: true; the input reads as it did. -/
def fnTripsOfSpec : ChangeSpec := { name := "fnTripsOf", fn := fun _ => fun
  | [d1, d2] => { results := [.lit (.bool true)], args := [d1, d2] }
  | _ => none }
def fnTripsOfRow : OpenClaim := { program := "ytmbdphefnalenaa", sum := "a7b27de1848f0bc13a5f136fb113d6317dea9f60d79c1e6419ddebe5d18e8fd1", func := "loop.example/concierge/laws.FnTripsOf", spec := "fnTripsOf", unfollowed := true, recurses := true, apart := false }
def FnTripsOfSaid : Prop := fnTripsOfRow.holds Try.pinned (OpenSpec.ofChange fnTripsOfSpec)

/-- ITS FALSE NEIGHBOUR: 'it returns false'. Refute it at one input. -/
def fnTripsOfWrong : ChangeSpec := { name := "fnTripsOf", fn := fun _ => fun
  | [d1, d2] => { results := [.lit (.bool false)], args := [d1, d2] }
  | _ => none }
def FnTripsOfWrongFalsely : Prop := fnTripsOfRow.holds Try.pinned (OpenSpec.ofChange fnTripsOfWrong)

/-- 'laws.FnStockOf': WHATEVER THE INPUT: true; the input reads as it did. -/
def fnStockOfSpec : ChangeSpec := { name := "fnStockOf", fn := fun _ => fun
  | [d1, d2] => { results := [.lit (.bool true)], args := [d1, d2] }
  | _ => none }
def fnStockOfRow : OpenClaim := { program := "ytmbdphefnalenaa", sum := "a7b27de1848f0bc13a5f136fb113d6317dea9f60d79c1e6419ddebe5d18e8fd1", func := "loop.example/concierge/laws.FnStockOf", spec := "fnStockOf", unfollowed := true, recurses := true, apart := false }
def FnStockOfSaid : Prop := fnStockOfRow.holds Try.pinned (OpenSpec.ofChange fnStockOfSpec)

/-- ITS FALSE NEIGHBOUR: 'it returns false'. Refute it at one input. -/
def fnStockOfWrong : ChangeSpec := { name := "fnStockOf", fn := fun _ => fun
  | [d1, d2] => { results := [.lit (.bool false)], args := [d1, d2] }
  | _ => none }
def FnStockOfWrongFalsely : Prop := fnStockOfRow.holds Try.pinned (OpenSpec.ofChange fnStockOfWrong)

/-- 'laws.FnStockMore': WHATEVER THE INPUT: true; the input reads as it did. -/
def fnStockMoreSpec : ChangeSpec := { name := "fnStockMore", fn := fun _ => fun
  | [d] => { results := [.lit (.bool true)], args := [d] }
  | _ => none }
def fnStockMoreRow : OpenClaim := { program := "ytmbdphefnalenaa", sum := "a7b27de1848f0bc13a5f136fb113d6317dea9f60d79c1e6419ddebe5d18e8fd1", func := "loop.example/concierge/laws.FnStockMore", spec := "fnStockMore", unfollowed := true, recurses := true, apart := false }
def FnStockMoreSaid : Prop := fnStockMoreRow.holds Try.pinned (OpenSpec.ofChange fnStockMoreSpec)

/-- ITS FALSE NEIGHBOUR: 'it returns false'. Refute it at one input. -/
def fnStockMoreWrong : ChangeSpec := { name := "fnStockMore", fn := fun _ => fun
  | [d] => { results := [.lit (.bool false)], args := [d] }
  | _ => none }
def FnStockMoreWrongFalsely : Prop := fnStockMoreRow.holds Try.pinned (OpenSpec.ofChange fnStockMoreWrong)

/-- 'laws.FnStockApart': WHATEVER THE INPUT: true; the input reads as it did. -/
def fnStockApartSpec : ChangeSpec := { name := "fnStockApart", fn := fun _ => fun
  | [d1, d2] => { results := [.lit (.bool true)], args := [d1, d2] }
  | _ => none }
def fnStockApartRow : OpenClaim := { program := "ytmbdphefnalenaa", sum := "a7b27de1848f0bc13a5f136fb113d6317dea9f60d79c1e6419ddebe5d18e8fd1", func := "loop.example/concierge/laws.FnStockApart", spec := "fnStockApart", unfollowed := true, recurses := true, apart := false }
def FnStockApartSaid : Prop := fnStockApartRow.holds Try.pinned (OpenSpec.ofChange fnStockApartSpec)

/-- ITS FALSE NEIGHBOUR: 'it returns false'. Refute it at one input. -/
def fnStockApartWrong : ChangeSpec := { name := "fnStockApart", fn := fun _ => fun
  | [d1, d2] => { results := [.lit (.bool false)], args := [d1, d2] }
  | _ => none }
def FnStockApartWrongFalsely : Prop := fnStockApartRow.holds Try.pinned (OpenSpec.ofChange fnStockApartWrong)

/-- 'laws.FnStockTwice': WHATEVER THE INPUT: true; the input reads as it did. -/
def fnStockTwiceSpec : ChangeSpec := { name := "fnStockTwice", fn := fun _ => fun
  | [d] => { results := [.lit (.bool true)], args := [d] }
  | _ => none }
def fnStockTwiceRow : OpenClaim := { program := "ytmbdphefnalenaa", sum := "a7b27de1848f0bc13a5f136fb113d6317dea9f60d79c1e6419ddebe5d18e8fd1", func := "loop.example/concierge/laws.FnStockTwice", spec := "fnStockTwice", unfollowed := true, recurses := true, apart := false }
def FnStockTwiceSaid : Prop := fnStockTwiceRow.holds Try.pinned (OpenSpec.ofChange fnStockTwiceSpec)

/-- ITS FALSE NEIGHBOUR: 'it returns false'. Refute it at one input. -/
def fnStockTwiceWrong : ChangeSpec := { name := "fnStockTwice", fn := fun _ => fun
  | [d] => { results := [.lit (.bool false)], args := [d] }
  | _ => none }
def FnStockTwiceWrongFalsely : Prop := fnStockTwiceRow.holds Try.pinned (OpenSpec.ofChange fnStockTwiceWrong)

/-- 'laws.FnStockKeep': WHATEVER THE INPUT: true; the input reads as it did. -/
def fnStockKeepSpec : ChangeSpec := { name := "fnStockKeep", fn := fun _ => fun
  | [d] => { results := [.lit (.bool true)], args := [d] }
  | _ => none }
def fnStockKeepRow : OpenClaim := { program := "ytmbdphefnalenaa", sum := "a7b27de1848f0bc13a5f136fb113d6317dea9f60d79c1e6419ddebe5d18e8fd1", func := "loop.example/concierge/laws.FnStockKeep", spec := "fnStockKeep", unfollowed := true, recurses := true, apart := false }
def FnStockKeepSaid : Prop := fnStockKeepRow.holds Try.pinned (OpenSpec.ofChange fnStockKeepSpec)

/-- ITS FALSE NEIGHBOUR: 'it returns false'. Refute it at one input. -/
def fnStockKeepWrong : ChangeSpec := { name := "fnStockKeep", fn := fun _ => fun
  | [d] => { results := [.lit (.bool false)], args := [d] }
  | _ => none }
def FnStockKeepWrongFalsely : Prop := fnStockKeepRow.holds Try.pinned (OpenSpec.ofChange fnStockKeepWrong)

/-- 'laws.FnStockNever': WHATEVER THE INPUT: true; the input reads as it did. -/
def fnStockNeverSpec : ChangeSpec := { name := "fnStockNever", fn := fun _ => fun
  | [d] => { results := [.lit (.bool true)], args := [d] }
  | _ => none }
def fnStockNeverRow : OpenClaim := { program := "ytmbdphefnalenaa", sum := "a7b27de1848f0bc13a5f136fb113d6317dea9f60d79c1e6419ddebe5d18e8fd1", func := "loop.example/concierge/laws.FnStockNever", spec := "fnStockNever", unfollowed := true, recurses := true, apart := false }
def FnStockNeverSaid : Prop := fnStockNeverRow.holds Try.pinned (OpenSpec.ofChange fnStockNeverSpec)

/-- ITS FALSE NEIGHBOUR: 'it returns false'. Refute it at one input. -/
def fnStockNeverWrong : ChangeSpec := { name := "fnStockNever", fn := fun _ => fun
  | [d] => { results := [.lit (.bool false)], args := [d] }
  | _ => none }
def FnStockNeverWrongFalsely : Prop := fnStockNeverRow.holds Try.pinned (OpenSpec.ofChange fnStockNeverWrong)

/-- 'laws.FnStockStep': WHATEVER THE INPUT: true; the input reads as it did. -/
def fnStockStepSpec : ChangeSpec := { name := "fnStockStep", fn := fun _ => fun
  | [d] => { results := [.lit (.bool true)], args := [d] }
  | _ => none }
def fnStockStepRow : OpenClaim := { program := "ytmbdphefnalenaa", sum := "a7b27de1848f0bc13a5f136fb113d6317dea9f60d79c1e6419ddebe5d18e8fd1", func := "loop.example/concierge/laws.FnStockStep", spec := "fnStockStep", unfollowed := true, recurses := true, apart := false }
def FnStockStepSaid : Prop := fnStockStepRow.holds Try.pinned (OpenSpec.ofChange fnStockStepSpec)

/-- ITS FALSE NEIGHBOUR: 'it returns false'. Refute it at one input. -/
def fnStockStepWrong : ChangeSpec := { name := "fnStockStep", fn := fun _ => fun
  | [d] => { results := [.lit (.bool false)], args := [d] }
  | _ => none }
def FnStockStepWrongFalsely : Prop := fnStockStepRow.holds Try.pinned (OpenSpec.ofChange fnStockStepWrong)

/-- 'laws.FnStockUndo': WHATEVER THE INPUT: true; the input reads as it did. -/
def fnStockUndoSpec : ChangeSpec := { name := "fnStockUndo", fn := fun _ => fun
  | [d1, d2] => { results := [.lit (.bool true)], args := [d1, d2] }
  | _ => none }
def fnStockUndoRow : OpenClaim := { program := "ytmbdphefnalenaa", sum := "a7b27de1848f0bc13a5f136fb113d6317dea9f60d79c1e6419ddebe5d18e8fd1", func := "loop.example/concierge/laws.FnStockUndo", spec := "fnStockUndo", unfollowed := true, recurses := true, apart := false }
def FnStockUndoSaid : Prop := fnStockUndoRow.holds Try.pinned (OpenSpec.ofChange fnStockUndoSpec)

/-- ITS FALSE NEIGHBOUR: 'it returns false'. Refute it at one input. -/
def fnStockUndoWrong : ChangeSpec := { name := "fnStockUndo", fn := fun _ => fun
  | [d1, d2] => { results := [.lit (.bool false)], args := [d1, d2] }
  | _ => none }
def FnStockUndoWrongFalsely : Prop := fnStockUndoRow.holds Try.pinned (OpenSpec.ofChange fnStockUndoWrong)

/-- 'laws.FnExactStockDo': WHATEVER THE INPUT: true; the input reads as it did. -/
def fnExactStockDoSpec : ChangeSpec := { name := "fnExactStockDo", fn := fun _ => fun
  | [d1, d2] => { results := [.lit (.bool true)], args := [d1, d2] }
  | _ => none }
def fnExactStockDoRow : OpenClaim := { program := "ytmbdphefnalenaa", sum := "a7b27de1848f0bc13a5f136fb113d6317dea9f60d79c1e6419ddebe5d18e8fd1", func := "loop.example/concierge/laws.FnExactStockDo", spec := "fnExactStockDo", unfollowed := true, recurses := true, apart := false }
def FnExactStockDoSaid : Prop := fnExactStockDoRow.holds Try.pinned (OpenSpec.ofChange fnExactStockDoSpec)

/-- ITS FALSE NEIGHBOUR: 'it returns false'. Refute it at one input. -/
def fnExactStockDoWrong : ChangeSpec := { name := "fnExactStockDo", fn := fun _ => fun
  | [d1, d2] => { results := [.lit (.bool false)], args := [d1, d2] }
  | _ => none }
def FnExactStockDoWrongFalsely : Prop := fnExactStockDoRow.holds Try.pinned (OpenSpec.ofChange fnExactStockDoWrong)

/-- 'laws.FnExactStockOf': WHATEVER THE INPUT: true; the input reads as it did. -/
def fnExactStockOfSpec : ChangeSpec := { name := "fnExactStockOf", fn := fun _ => fun
  | [d1, d2] => { results := [.lit (.bool true)], args := [d1, d2] }
  | _ => none }
def fnExactStockOfRow : OpenClaim := { program := "ytmbdphefnalenaa", sum := "a7b27de1848f0bc13a5f136fb113d6317dea9f60d79c1e6419ddebe5d18e8fd1", func := "loop.example/concierge/laws.FnExactStockOf", spec := "fnExactStockOf", unfollowed := true, recurses := true, apart := false }
def FnExactStockOfSaid : Prop := fnExactStockOfRow.holds Try.pinned (OpenSpec.ofChange fnExactStockOfSpec)

/-- ITS FALSE NEIGHBOUR: 'it returns false'. Refute it at one input. -/
def fnExactStockOfWrong : ChangeSpec := { name := "fnExactStockOf", fn := fun _ => fun
  | [d1, d2] => { results := [.lit (.bool false)], args := [d1, d2] }
  | _ => none }
def FnExactStockOfWrongFalsely : Prop := fnExactStockOfRow.holds Try.pinned (OpenSpec.ofChange fnExactStockOfWrong)

/-- 'laws.FnHouseLog': WHATEVER THE INPUT: true; the input reads as it did. -/
def fnHouseLogSpec : ChangeSpec := { name := "fnHouseLog", fn := fun _ => fun
  | [d1, d2] => { results := [.lit (.bool true)], args := [d1, d2] }
  | _ => none }
def fnHouseLogRow : OpenClaim := { program := "ytmbdphefnalenaa", sum := "a7b27de1848f0bc13a5f136fb113d6317dea9f60d79c1e6419ddebe5d18e8fd1", func := "loop.example/concierge/laws.FnHouseLog", spec := "fnHouseLog", unfollowed := true, recurses := true, apart := false }
def FnHouseLogSaid : Prop := fnHouseLogRow.holds Try.pinned (OpenSpec.ofChange fnHouseLogSpec)

/-- ITS FALSE NEIGHBOUR: 'it returns false'. Refute it at one input. -/
def fnHouseLogWrong : ChangeSpec := { name := "fnHouseLog", fn := fun _ => fun
  | [d1, d2] => { results := [.lit (.bool false)], args := [d1, d2] }
  | _ => none }
def FnHouseLogWrongFalsely : Prop := fnHouseLogRow.holds Try.pinned (OpenSpec.ofChange fnHouseLogWrong)

/- THE SECOND FORM. 'bulk': how many values and letters a reading holds, each counted each time it is reached (what is shared counts as often as it is met; a slice's spare places count too). A statement '..UptoSaid' is the law's where the arguments, and the package variables that the reading takes, are together of bulk at most 1048576: NARROWER than '..Said'. Prove '..Said' where nothing that the law and all that it calls make is longer than what came in: it says more and counts as full. Else prove '..UptoSaid'. A law counts once. -/
mutual
def uptoBulk {H : Type} : DataW H → Nat
  | .lit (.string bytes) => bytes.length + 1
  | .lit _ => 1
  | .nil => 1
  | .ptr d => uptoBulk d + 1
  | .slice elems spare => uptoBulkAll elems + uptoBulkAll spare + 1
  | .agg parts => uptoBulkAll parts + 1
  | .iface _ d => uptoBulk d + 1
  | .map entries => uptoBulkEntries entries + 1
  | .held _ => 1
def uptoBulkAll {H : Type} : List (DataW H) → Nat
  | [] => 0
  | d :: r => uptoBulk d + uptoBulkAll r
def uptoBulkEntries {H : Type} : List (Lit × DataW H) → Nat
  | [] => 0
  | x :: r => uptoBulkEntry x + uptoBulkEntries r
def uptoBulkEntry {H : Type} : Lit × DataW H → Nat
  | (.string bytes, d) => bytes.length + uptoBulk d + 1
  | (_, d) => uptoBulk d + 1
 end
def uptoSmall : (H : Type) → List (DataW H) → Bool := fun _ ds => decide (uptoBulkAll ds ≤ 1048576)
def OpenSpec.upto (s : _root_.Go.ChangeSpec) : _root_.Go.OpenSpec := { _root_.Go.OpenSpec.ofChange s with cond := some uptoSmall }

/-- 'laws.FnTripsOf', WHERE WHAT IT READS IS OF BULK AT MOST 1048576: true; the input reads as it did. -/
def fnTripsOfUptoRow : OpenClaim := { program := "ytmbdphefnalenaa", sum := "a7b27de1848f0bc13a5f136fb113d6317dea9f60d79c1e6419ddebe5d18e8fd1", func := "loop.example/concierge/laws.FnTripsOf", spec := "fnTripsOf", unfollowed := true, recurses := true, apart := false, narrowed := true }
def FnTripsOfUptoSaid : Prop := fnTripsOfUptoRow.holds Try.pinned (OpenSpec.upto fnTripsOfSpec)

/-- 'laws.FnStockOf', WHERE WHAT IT READS IS OF BULK AT MOST 1048576: true; the input reads as it did. -/
def fnStockOfUptoRow : OpenClaim := { program := "ytmbdphefnalenaa", sum := "a7b27de1848f0bc13a5f136fb113d6317dea9f60d79c1e6419ddebe5d18e8fd1", func := "loop.example/concierge/laws.FnStockOf", spec := "fnStockOf", unfollowed := true, recurses := true, apart := false, narrowed := true }
def FnStockOfUptoSaid : Prop := fnStockOfUptoRow.holds Try.pinned (OpenSpec.upto fnStockOfSpec)

/-- 'laws.FnStockMore', WHERE WHAT IT READS IS OF BULK AT MOST 1048576: true; the input reads as it did. -/
def fnStockMoreUptoRow : OpenClaim := { program := "ytmbdphefnalenaa", sum := "a7b27de1848f0bc13a5f136fb113d6317dea9f60d79c1e6419ddebe5d18e8fd1", func := "loop.example/concierge/laws.FnStockMore", spec := "fnStockMore", unfollowed := true, recurses := true, apart := false, narrowed := true }
def FnStockMoreUptoSaid : Prop := fnStockMoreUptoRow.holds Try.pinned (OpenSpec.upto fnStockMoreSpec)

/-- 'laws.FnStockApart', WHERE WHAT IT READS IS OF BULK AT MOST 1048576: true; the input reads as it did. -/
def fnStockApartUptoRow : OpenClaim := { program := "ytmbdphefnalenaa", sum := "a7b27de1848f0bc13a5f136fb113d6317dea9f60d79c1e6419ddebe5d18e8fd1", func := "loop.example/concierge/laws.FnStockApart", spec := "fnStockApart", unfollowed := true, recurses := true, apart := false, narrowed := true }
def FnStockApartUptoSaid : Prop := fnStockApartUptoRow.holds Try.pinned (OpenSpec.upto fnStockApartSpec)

/-- 'laws.FnStockTwice', WHERE WHAT IT READS IS OF BULK AT MOST 1048576: true; the input reads as it did. -/
def fnStockTwiceUptoRow : OpenClaim := { program := "ytmbdphefnalenaa", sum := "a7b27de1848f0bc13a5f136fb113d6317dea9f60d79c1e6419ddebe5d18e8fd1", func := "loop.example/concierge/laws.FnStockTwice", spec := "fnStockTwice", unfollowed := true, recurses := true, apart := false, narrowed := true }
def FnStockTwiceUptoSaid : Prop := fnStockTwiceUptoRow.holds Try.pinned (OpenSpec.upto fnStockTwiceSpec)

/-- 'laws.FnStockKeep', WHERE WHAT IT READS IS OF BULK AT MOST 1048576: true; the input reads as it did. -/
def fnStockKeepUptoRow : OpenClaim := { program := "ytmbdphefnalenaa", sum := "a7b27de1848f0bc13a5f136fb113d6317dea9f60d79c1e6419ddebe5d18e8fd1", func := "loop.example/concierge/laws.FnStockKeep", spec := "fnStockKeep", unfollowed := true, recurses := true, apart := false, narrowed := true }
def FnStockKeepUptoSaid : Prop := fnStockKeepUptoRow.holds Try.pinned (OpenSpec.upto fnStockKeepSpec)

/-- 'laws.FnStockNever', WHERE WHAT IT READS IS OF BULK AT MOST 1048576: true; the input reads as it did. -/
def fnStockNeverUptoRow : OpenClaim := { program := "ytmbdphefnalenaa", sum := "a7b27de1848f0bc13a5f136fb113d6317dea9f60d79c1e6419ddebe5d18e8fd1", func := "loop.example/concierge/laws.FnStockNever", spec := "fnStockNever", unfollowed := true, recurses := true, apart := false, narrowed := true }
def FnStockNeverUptoSaid : Prop := fnStockNeverUptoRow.holds Try.pinned (OpenSpec.upto fnStockNeverSpec)

/-- 'laws.FnStockStep', WHERE WHAT IT READS IS OF BULK AT MOST 1048576: true; the input reads as it did. -/
def fnStockStepUptoRow : OpenClaim := { program := "ytmbdphefnalenaa", sum := "a7b27de1848f0bc13a5f136fb113d6317dea9f60d79c1e6419ddebe5d18e8fd1", func := "loop.example/concierge/laws.FnStockStep", spec := "fnStockStep", unfollowed := true, recurses := true, apart := false, narrowed := true }
def FnStockStepUptoSaid : Prop := fnStockStepUptoRow.holds Try.pinned (OpenSpec.upto fnStockStepSpec)

/-- 'laws.FnStockUndo', WHERE WHAT IT READS IS OF BULK AT MOST 1048576: true; the input reads as it did. -/
def fnStockUndoUptoRow : OpenClaim := { program := "ytmbdphefnalenaa", sum := "a7b27de1848f0bc13a5f136fb113d6317dea9f60d79c1e6419ddebe5d18e8fd1", func := "loop.example/concierge/laws.FnStockUndo", spec := "fnStockUndo", unfollowed := true, recurses := true, apart := false, narrowed := true }
def FnStockUndoUptoSaid : Prop := fnStockUndoUptoRow.holds Try.pinned (OpenSpec.upto fnStockUndoSpec)

/-- 'laws.FnExactStockDo', WHERE WHAT IT READS IS OF BULK AT MOST 1048576: true; the input reads as it did. -/
def fnExactStockDoUptoRow : OpenClaim := { program := "ytmbdphefnalenaa", sum := "a7b27de1848f0bc13a5f136fb113d6317dea9f60d79c1e6419ddebe5d18e8fd1", func := "loop.example/concierge/laws.FnExactStockDo", spec := "fnExactStockDo", unfollowed := true, recurses := true, apart := false, narrowed := true }
def FnExactStockDoUptoSaid : Prop := fnExactStockDoUptoRow.holds Try.pinned (OpenSpec.upto fnExactStockDoSpec)

/-- 'laws.FnExactStockOf', WHERE WHAT IT READS IS OF BULK AT MOST 1048576: true; the input reads as it did. -/
def fnExactStockOfUptoRow : OpenClaim := { program := "ytmbdphefnalenaa", sum := "a7b27de1848f0bc13a5f136fb113d6317dea9f60d79c1e6419ddebe5d18e8fd1", func := "loop.example/concierge/laws.FnExactStockOf", spec := "fnExactStockOf", unfollowed := true, recurses := true, apart := false, narrowed := true }
def FnExactStockOfUptoSaid : Prop := fnExactStockOfUptoRow.holds Try.pinned (OpenSpec.upto fnExactStockOfSpec)

/-- 'laws.FnHouseLog', WHERE WHAT IT READS IS OF BULK AT MOST 1048576: true; the input reads as it did. -/
def fnHouseLogUptoRow : OpenClaim := { program := "ytmbdphefnalenaa", sum := "a7b27de1848f0bc13a5f136fb113d6317dea9f60d79c1e6419ddebe5d18e8fd1", func := "loop.example/concierge/laws.FnHouseLog", spec := "fnHouseLog", unfollowed := true, recurses := true, apart := false, narrowed := true }
def FnHouseLogUptoSaid : Prop := fnHouseLogUptoRow.holds Try.pinned (OpenSpec.upto fnHouseLogSpec)

end Rows
end Go.Proofs.Ytmbdphefnalenaa
