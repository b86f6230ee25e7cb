/-
  DERIVED. GIVEN WITH THE SEED: THE CARDS: each row of YtbcepmkifomifaaDoorRows.lean that lists a variable, with what it lists TIED to the program's text (the seventh form; the later family's looks); each row that meets fmt, with fmt's text TOLD by the authors' own Lean function (tested against real Go, not proved from fmt's source: count such statements apart). THE CARD IS WHAT COUNTS. Prove the row's statement (the work); the ties are given (YtbcepmkifomifaaDoorTie.lean); close each card by the builder's one call (the guide's Derived/Test/ToyasCard.lean, 'card_holds'). Laid BY PROGRAM, IN A SANDBOX (cutbox-door.mjs). By AI agents, Wed Nov 11 2026. No macro, syntax, notation, axiom, sorry.
-/
import Derived.Test.YtbcepmkifomifaaDoorRows
import GoSem.ClaimSeven
namespace Go.Proofs.YtbcepmkifomifaaDoor
namespace Rows

/-- THE TIED CARD OF 'laws.FnRecCut'. -/
def fnRecCutCard : Claim7 := { stood := { row := fnRecCutRow, standIns := [], harness := (true, "857c74b7a27646d4034cb53ca4faa2a95dcb653608a0c2658ab96bdcbcb3e975"), looks := true }, kinds := [], alts := [], laidByText := true, laidKinds := [.data, .data, .data, .data, .sentinel, .sentinel, .pinned], laidTests := true, laidLooks := .later }
def FnRecCutCardSaid : Prop := Claim7.holds Tryd.pinned (.plain (OpenSpec.ofChange fnRecCutSpec)) fnRecCutCard

/-- THE TIED CARD OF 'laws.FnExactRecRead'. -/
def fnExactRecReadCard : Claim7 := { stood := { row := fnExactRecReadRow, standIns := [], harness := (true, "857c74b7a27646d4034cb53ca4faa2a95dcb653608a0c2658ab96bdcbcb3e975"), looks := true }, kinds := [], alts := [], laidByText := true, laidKinds := [.data, .data, .data, .data, .sentinel, .sentinel, .pinned], laidTests := true, laidLooks := .later }
def FnExactRecReadCardSaid : Prop := Claim7.holds Tryd.pinned (.plain (OpenSpec.ofChange fnExactRecReadSpec)) fnExactRecReadCard

/-- THE TIED CARD OF 'laws.FnRecStrict'. -/
def fnRecStrictCard : Claim7 := { stood := { row := fnRecStrictRow, standIns := [], harness := (true, "857c74b7a27646d4034cb53ca4faa2a95dcb653608a0c2658ab96bdcbcb3e975"), looks := true }, kinds := [], alts := [], laidByText := true, laidKinds := [.data, .data, .data, .data, .sentinel, .sentinel, .pinned], laidTests := true, laidLooks := .later }
def FnRecStrictCardSaid : Prop := Claim7.holds Tryd.pinned (.plain (OpenSpec.ofChange fnRecStrictSpec)) fnRecStrictCard

/-- THE TIED CARD OF 'laws.FnExactWordText'. -/
def fnExactWordTextCard : Claim7 := { stood := { row := fnExactWordTextRow, standIns := [], harness := (true, "857c74b7a27646d4034cb53ca4faa2a95dcb653608a0c2658ab96bdcbcb3e975"), looks := true }, kinds := [], alts := [], laidByText := true, laidKinds := [.data, .data, .data], laidTests := true, laidLooks := .later }
def FnExactWordTextCardSaid : Prop := Claim7.holds Tryd.pinned (.plain (OpenSpec.ofChange fnExactWordTextSpec)) fnExactWordTextCard

/-- THE TIED CARD OF 'laws.FnWordOne'. -/
def fnWordOneCard : Claim7 := { stood := { row := fnWordOneRow, standIns := [], harness := (true, "857c74b7a27646d4034cb53ca4faa2a95dcb653608a0c2658ab96bdcbcb3e975"), looks := true }, kinds := [], alts := [], laidByText := true, laidKinds := [.data, .data, .data], laidTests := true, laidLooks := .later }
def FnWordOneCardSaid : Prop := Claim7.holds Tryd.pinned (.plain (OpenSpec.ofChange fnWordOneSpec)) fnWordOneCard

/-- THE TIED CARD OF 'laws.FnExactRecText'. -/
def fnExactRecTextCard : Claim7 := { stood := { row := fnExactRecTextRow, standIns := [], harness := (true, "857c74b7a27646d4034cb53ca4faa2a95dcb653608a0c2658ab96bdcbcb3e975"), looks := true }, kinds := [], alts := [], laidByText := true, laidKinds := [.data, .data, .data], laidTests := true, laidLooks := .later }
def FnExactRecTextCardSaid : Prop := Claim7.holds Tryd.pinned (.plain (OpenSpec.ofChange fnExactRecTextSpec)) fnExactRecTextCard

/-- THE TIED CARD OF 'laws.FnRecOne'. -/
def fnRecOneCard : Claim7 := { stood := { row := fnRecOneRow, standIns := [], harness := (true, "857c74b7a27646d4034cb53ca4faa2a95dcb653608a0c2658ab96bdcbcb3e975"), looks := true }, kinds := [], alts := [], laidByText := true, laidKinds := [.data, .data, .data], laidTests := true, laidLooks := .later }
def FnRecOneCardSaid : Prop := Claim7.holds Tryd.pinned (.plain (OpenSpec.ofChange fnRecOneSpec)) fnRecOneCard

/-- THE TIED CARD OF 'laws.FnWordBack'. -/
def fnWordBackCard : Claim7 := { stood := { row := fnWordBackRow, standIns := [], harness := (true, "857c74b7a27646d4034cb53ca4faa2a95dcb653608a0c2658ab96bdcbcb3e975"), looks := true }, kinds := [], alts := [], laidByText := true, laidKinds := [.data, .data, .data, .data, .sentinel, .sentinel, .pinned], laidTests := true, laidLooks := .later }
def FnWordBackCardSaid : Prop := Claim7.holds Tryd.pinned (.plain (OpenSpec.ofChange fnWordBackSpec)) fnWordBackCard

/-- THE TIED CARD OF 'laws.FnWordCut'. -/
def fnWordCutCard : Claim7 := { stood := { row := fnWordCutRow, standIns := [], harness := (true, "857c74b7a27646d4034cb53ca4faa2a95dcb653608a0c2658ab96bdcbcb3e975"), looks := true }, kinds := [], alts := [], laidByText := true, laidKinds := [.data, .data, .data, .data, .sentinel, .sentinel, .pinned], laidTests := true, laidLooks := .later }
def FnWordCutCardSaid : Prop := Claim7.holds Tryd.pinned (.plain (OpenSpec.ofChange fnWordCutSpec)) fnWordCutCard

/-- THE TIED CARD OF 'laws.FnExactWordRead'. -/
def fnExactWordReadCard : Claim7 := { stood := { row := fnExactWordReadRow, standIns := [], harness := (true, "857c74b7a27646d4034cb53ca4faa2a95dcb653608a0c2658ab96bdcbcb3e975"), looks := true }, kinds := [], alts := [], laidByText := true, laidKinds := [.data, .data, .data, .data, .sentinel, .sentinel, .pinned], laidTests := true, laidLooks := .later }
def FnExactWordReadCardSaid : Prop := Claim7.holds Tryd.pinned (.plain (OpenSpec.ofChange fnExactWordReadSpec)) fnExactWordReadCard

/-- THE TIED CARD OF 'laws.FnWordStrict'. -/
def fnWordStrictCard : Claim7 := { stood := { row := fnWordStrictRow, standIns := [], harness := (true, "857c74b7a27646d4034cb53ca4faa2a95dcb653608a0c2658ab96bdcbcb3e975"), looks := true }, kinds := [], alts := [], laidByText := true, laidKinds := [.data, .data, .data, .data, .sentinel, .sentinel, .pinned], laidTests := true, laidLooks := .later }
def FnWordStrictCardSaid : Prop := Claim7.holds Tryd.pinned (.plain (OpenSpec.ofChange fnWordStrictSpec)) fnWordStrictCard

/-- THE TIED CARD OF 'laws.FnRecBack'. -/
def fnRecBackCard : Claim7 := { stood := { row := fnRecBackRow, standIns := [], harness := (true, "857c74b7a27646d4034cb53ca4faa2a95dcb653608a0c2658ab96bdcbcb3e975"), looks := true }, kinds := [], alts := [], laidByText := true, laidKinds := [.data, .data, .data, .data, .sentinel, .sentinel, .pinned], laidTests := true, laidLooks := .later }
def FnRecBackCardSaid : Prop := Claim7.holds Tryd.pinned (.plain (OpenSpec.ofChange fnRecBackSpec)) fnRecBackCard

/-- THE SECOND FORM's CARD OF 'laws.FnRecCut'. -/
def fnRecCutUptoCard : Claim7 := { stood := { row := fnRecCutUptoRow, standIns := [], harness := (true, "857c74b7a27646d4034cb53ca4faa2a95dcb653608a0c2658ab96bdcbcb3e975"), looks := true }, kinds := [], alts := [], laidByText := true, laidKinds := [.data, .data, .data, .data, .sentinel, .sentinel, .pinned], laidTests := true, laidLooks := .later }
def FnRecCutUptoCardSaid : Prop := Claim7.holds Tryd.pinned (.plain (OpenSpec.upto fnRecCutSpec)) fnRecCutUptoCard

/-- THE SECOND FORM's CARD OF 'laws.FnExactRecRead'. -/
def fnExactRecReadUptoCard : Claim7 := { stood := { row := fnExactRecReadUptoRow, standIns := [], harness := (true, "857c74b7a27646d4034cb53ca4faa2a95dcb653608a0c2658ab96bdcbcb3e975"), looks := true }, kinds := [], alts := [], laidByText := true, laidKinds := [.data, .data, .data, .data, .sentinel, .sentinel, .pinned], laidTests := true, laidLooks := .later }
def FnExactRecReadUptoCardSaid : Prop := Claim7.holds Tryd.pinned (.plain (OpenSpec.upto fnExactRecReadSpec)) fnExactRecReadUptoCard

/-- THE SECOND FORM's CARD OF 'laws.FnRecStrict'. -/
def fnRecStrictUptoCard : Claim7 := { stood := { row := fnRecStrictUptoRow, standIns := [], harness := (true, "857c74b7a27646d4034cb53ca4faa2a95dcb653608a0c2658ab96bdcbcb3e975"), looks := true }, kinds := [], alts := [], laidByText := true, laidKinds := [.data, .data, .data, .data, .sentinel, .sentinel, .pinned], laidTests := true, laidLooks := .later }
def FnRecStrictUptoCardSaid : Prop := Claim7.holds Tryd.pinned (.plain (OpenSpec.upto fnRecStrictSpec)) fnRecStrictUptoCard

/-- THE SECOND FORM's CARD OF 'laws.FnExactWordText'. -/
def fnExactWordTextUptoCard : Claim7 := { stood := { row := fnExactWordTextUptoRow, standIns := [], harness := (true, "857c74b7a27646d4034cb53ca4faa2a95dcb653608a0c2658ab96bdcbcb3e975"), looks := true }, kinds := [], alts := [], laidByText := true, laidKinds := [.data, .data, .data], laidTests := true, laidLooks := .later }
def FnExactWordTextUptoCardSaid : Prop := Claim7.holds Tryd.pinned (.plain (OpenSpec.upto fnExactWordTextSpec)) fnExactWordTextUptoCard

/-- THE SECOND FORM's CARD OF 'laws.FnWordOne'. -/
def fnWordOneUptoCard : Claim7 := { stood := { row := fnWordOneUptoRow, standIns := [], harness := (true, "857c74b7a27646d4034cb53ca4faa2a95dcb653608a0c2658ab96bdcbcb3e975"), looks := true }, kinds := [], alts := [], laidByText := true, laidKinds := [.data, .data, .data], laidTests := true, laidLooks := .later }
def FnWordOneUptoCardSaid : Prop := Claim7.holds Tryd.pinned (.plain (OpenSpec.upto fnWordOneSpec)) fnWordOneUptoCard

/-- THE SECOND FORM's CARD OF 'laws.FnExactRecText'. -/
def fnExactRecTextUptoCard : Claim7 := { stood := { row := fnExactRecTextUptoRow, standIns := [], harness := (true, "857c74b7a27646d4034cb53ca4faa2a95dcb653608a0c2658ab96bdcbcb3e975"), looks := true }, kinds := [], alts := [], laidByText := true, laidKinds := [.data, .data, .data], laidTests := true, laidLooks := .later }
def FnExactRecTextUptoCardSaid : Prop := Claim7.holds Tryd.pinned (.plain (OpenSpec.upto fnExactRecTextSpec)) fnExactRecTextUptoCard

/-- THE SECOND FORM's CARD OF 'laws.FnRecOne'. -/
def fnRecOneUptoCard : Claim7 := { stood := { row := fnRecOneUptoRow, standIns := [], harness := (true, "857c74b7a27646d4034cb53ca4faa2a95dcb653608a0c2658ab96bdcbcb3e975"), looks := true }, kinds := [], alts := [], laidByText := true, laidKinds := [.data, .data, .data], laidTests := true, laidLooks := .later }
def FnRecOneUptoCardSaid : Prop := Claim7.holds Tryd.pinned (.plain (OpenSpec.upto fnRecOneSpec)) fnRecOneUptoCard

/-- THE SECOND FORM's CARD OF 'laws.FnWordBack'. -/
def fnWordBackUptoCard : Claim7 := { stood := { row := fnWordBackUptoRow, standIns := [], harness := (true, "857c74b7a27646d4034cb53ca4faa2a95dcb653608a0c2658ab96bdcbcb3e975"), looks := true }, kinds := [], alts := [], laidByText := true, laidKinds := [.data, .data, .data, .data, .sentinel, .sentinel, .pinned], laidTests := true, laidLooks := .later }
def FnWordBackUptoCardSaid : Prop := Claim7.holds Tryd.pinned (.plain (OpenSpec.upto fnWordBackSpec)) fnWordBackUptoCard

/-- THE SECOND FORM's CARD OF 'laws.FnWordCut'. -/
def fnWordCutUptoCard : Claim7 := { stood := { row := fnWordCutUptoRow, standIns := [], harness := (true, "857c74b7a27646d4034cb53ca4faa2a95dcb653608a0c2658ab96bdcbcb3e975"), looks := true }, kinds := [], alts := [], laidByText := true, laidKinds := [.data, .data, .data, .data, .sentinel, .sentinel, .pinned], laidTests := true, laidLooks := .later }
def FnWordCutUptoCardSaid : Prop := Claim7.holds Tryd.pinned (.plain (OpenSpec.upto fnWordCutSpec)) fnWordCutUptoCard

/-- THE SECOND FORM's CARD OF 'laws.FnExactWordRead'. -/
def fnExactWordReadUptoCard : Claim7 := { stood := { row := fnExactWordReadUptoRow, standIns := [], harness := (true, "857c74b7a27646d4034cb53ca4faa2a95dcb653608a0c2658ab96bdcbcb3e975"), looks := true }, kinds := [], alts := [], laidByText := true, laidKinds := [.data, .data, .data, .data, .sentinel, .sentinel, .pinned], laidTests := true, laidLooks := .later }
def FnExactWordReadUptoCardSaid : Prop := Claim7.holds Tryd.pinned (.plain (OpenSpec.upto fnExactWordReadSpec)) fnExactWordReadUptoCard

/-- THE SECOND FORM's CARD OF 'laws.FnWordStrict'. -/
def fnWordStrictUptoCard : Claim7 := { stood := { row := fnWordStrictUptoRow, standIns := [], harness := (true, "857c74b7a27646d4034cb53ca4faa2a95dcb653608a0c2658ab96bdcbcb3e975"), looks := true }, kinds := [], alts := [], laidByText := true, laidKinds := [.data, .data, .data, .data, .sentinel, .sentinel, .pinned], laidTests := true, laidLooks := .later }
def FnWordStrictUptoCardSaid : Prop := Claim7.holds Tryd.pinned (.plain (OpenSpec.upto fnWordStrictSpec)) fnWordStrictUptoCard

/-- THE SECOND FORM's CARD OF 'laws.FnRecBack'. -/
def fnRecBackUptoCard : Claim7 := { stood := { row := fnRecBackUptoRow, standIns := [], harness := (true, "857c74b7a27646d4034cb53ca4faa2a95dcb653608a0c2658ab96bdcbcb3e975"), looks := true }, kinds := [], alts := [], laidByText := true, laidKinds := [.data, .data, .data, .data, .sentinel, .sentinel, .pinned], laidTests := true, laidLooks := .later }
def FnRecBackUptoCardSaid : Prop := Claim7.holds Tryd.pinned (.plain (OpenSpec.upto fnRecBackSpec)) fnRecBackUptoCard
end Rows
end Go.Proofs.YtbcepmkifomifaaDoor
