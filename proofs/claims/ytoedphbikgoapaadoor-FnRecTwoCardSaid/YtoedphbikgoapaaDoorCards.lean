/-
  DERIVED. GIVEN WITH THE SEED: THE CARDS: each row of YtoedphbikgoapaaDoorRows.lean that lists a variable, with what it lists TIED to the program's text (the seventh form; the later family's looks); each row that meets fmt, with fmt's text TOLD by the authors' own Lean function (tested against real Go, not proved from fmt's source: count such statements apart). THE CARD IS WHAT COUNTS. Prove the row's statement (the work); the ties are given (YtoedphbikgoapaaDoorTie.lean); close each card by the builder's one call (the guide's Derived/Test/ToyasCard.lean, 'card_holds'). Laid BY PROGRAM, IN A SANDBOX (cutbox-door.mjs). By AI agents, Wed Nov 11 2026. No macro, syntax, notation, axiom, sorry.
-/
import Derived.Test.YtoedphbikgoapaaDoorRows
import GoSem.ClaimSeven
namespace Go.Proofs.YtoedphbikgoapaaDoor
namespace Rows

/-- THE TIED CARD OF 'laws.FnRecCut'. -/
def fnRecCutCard : Claim7 := { stood := { row := fnRecCutRow, standIns := [], harness := (true, "9d198998d7ab36cc07988369fd99e2c6464aeba59a83a708040d14dade2f12e7"), looks := true }, kinds := [], alts := [], laidByText := true, laidKinds := [.data, .data, .data, .data, .sentinel, .sentinel, .pinned], laidTests := true, laidLooks := .later }
def FnRecCutCardSaid : Prop := Claim7.holds Tryd.pinned (.plain (OpenSpec.ofChange fnRecCutSpec)) fnRecCutCard

/-- THE TIED CARD OF 'laws.FnExactRecRead'. -/
def fnExactRecReadCard : Claim7 := { stood := { row := fnExactRecReadRow, standIns := [], harness := (true, "9d198998d7ab36cc07988369fd99e2c6464aeba59a83a708040d14dade2f12e7"), looks := true }, kinds := [], alts := [], laidByText := true, laidKinds := [.data, .data, .data, .data, .sentinel, .sentinel, .pinned], laidTests := true, laidLooks := .later }
def FnExactRecReadCardSaid : Prop := Claim7.holds Tryd.pinned (.plain (OpenSpec.ofChange fnExactRecReadSpec)) fnExactRecReadCard

/-- THE TIED CARD OF 'laws.FnExactRecText'. -/
def fnExactRecTextCard : Claim7 := { stood := { row := fnExactRecTextRow, standIns := [], harness := (true, "9d198998d7ab36cc07988369fd99e2c6464aeba59a83a708040d14dade2f12e7"), looks := true }, kinds := [], alts := [], laidByText := true, laidKinds := [.data, .data, .data], laidTests := true, laidLooks := .later }
def FnExactRecTextCardSaid : Prop := Claim7.holds Tryd.pinned (.plain (OpenSpec.ofChange fnExactRecTextSpec)) fnExactRecTextCard

/-- THE TIED CARD OF 'laws.FnRecOne'. -/
def fnRecOneCard : Claim7 := { stood := { row := fnRecOneRow, standIns := [], harness := (true, "9d198998d7ab36cc07988369fd99e2c6464aeba59a83a708040d14dade2f12e7"), looks := true }, kinds := [], alts := [], laidByText := true, laidKinds := [.data, .data, .data], laidTests := true, laidLooks := .later }
def FnRecOneCardSaid : Prop := Claim7.holds Tryd.pinned (.plain (OpenSpec.ofChange fnRecOneSpec)) fnRecOneCard

/-- THE TIED CARD OF 'laws.FnRecTwo'. -/
def fnRecTwoCard : Claim7 := { stood := { row := fnRecTwoRow, standIns := [], harness := (true, "9d198998d7ab36cc07988369fd99e2c6464aeba59a83a708040d14dade2f12e7"), looks := true }, kinds := [], alts := [], laidByText := true, laidKinds := [.data, .data, .data], laidTests := true, laidLooks := .later }
def FnRecTwoCardSaid : Prop := Claim7.holds Tryd.pinned (.plain (OpenSpec.ofChange fnRecTwoSpec)) fnRecTwoCard

/-- THE TIED CARD OF 'laws.FnRecStrict'. -/
def fnRecStrictCard : Claim7 := { stood := { row := fnRecStrictRow, standIns := [], harness := (true, "9d198998d7ab36cc07988369fd99e2c6464aeba59a83a708040d14dade2f12e7"), looks := true }, kinds := [], alts := [], laidByText := true, laidKinds := [.data, .data, .data, .data, .sentinel, .sentinel, .pinned], laidTests := true, laidLooks := .later }
def FnRecStrictCardSaid : Prop := Claim7.holds Tryd.pinned (.plain (OpenSpec.ofChange fnRecStrictSpec)) fnRecStrictCard

/-- THE TIED CARD OF 'laws.FnRecBack'. -/
def fnRecBackCard : Claim7 := { stood := { row := fnRecBackRow, standIns := [], harness := (true, "9d198998d7ab36cc07988369fd99e2c6464aeba59a83a708040d14dade2f12e7"), looks := true }, kinds := [], alts := [], laidByText := true, laidKinds := [.data, .data, .data, .data, .sentinel, .sentinel, .pinned], laidTests := true, laidLooks := .later }
def FnRecBackCardSaid : Prop := Claim7.holds Tryd.pinned (.plain (OpenSpec.ofChange fnRecBackSpec)) fnRecBackCard

/-- THE SECOND FORM's CARD OF 'laws.FnRecCut'. -/
def fnRecCutUptoCard : Claim7 := { stood := { row := fnRecCutUptoRow, standIns := [], harness := (true, "9d198998d7ab36cc07988369fd99e2c6464aeba59a83a708040d14dade2f12e7"), looks := true }, kinds := [], alts := [], laidByText := true, laidKinds := [.data, .data, .data, .data, .sentinel, .sentinel, .pinned], laidTests := true, laidLooks := .later }
def FnRecCutUptoCardSaid : Prop := Claim7.holds Tryd.pinned (.plain (OpenSpec.upto fnRecCutSpec)) fnRecCutUptoCard

/-- THE SECOND FORM's CARD OF 'laws.FnExactRecRead'. -/
def fnExactRecReadUptoCard : Claim7 := { stood := { row := fnExactRecReadUptoRow, standIns := [], harness := (true, "9d198998d7ab36cc07988369fd99e2c6464aeba59a83a708040d14dade2f12e7"), looks := true }, kinds := [], alts := [], laidByText := true, laidKinds := [.data, .data, .data, .data, .sentinel, .sentinel, .pinned], laidTests := true, laidLooks := .later }
def FnExactRecReadUptoCardSaid : Prop := Claim7.holds Tryd.pinned (.plain (OpenSpec.upto fnExactRecReadSpec)) fnExactRecReadUptoCard

/-- THE SECOND FORM's CARD OF 'laws.FnExactRecText'. -/
def fnExactRecTextUptoCard : Claim7 := { stood := { row := fnExactRecTextUptoRow, standIns := [], harness := (true, "9d198998d7ab36cc07988369fd99e2c6464aeba59a83a708040d14dade2f12e7"), looks := true }, kinds := [], alts := [], laidByText := true, laidKinds := [.data, .data, .data], laidTests := true, laidLooks := .later }
def FnExactRecTextUptoCardSaid : Prop := Claim7.holds Tryd.pinned (.plain (OpenSpec.upto fnExactRecTextSpec)) fnExactRecTextUptoCard

/-- THE SECOND FORM's CARD OF 'laws.FnRecOne'. -/
def fnRecOneUptoCard : Claim7 := { stood := { row := fnRecOneUptoRow, standIns := [], harness := (true, "9d198998d7ab36cc07988369fd99e2c6464aeba59a83a708040d14dade2f12e7"), looks := true }, kinds := [], alts := [], laidByText := true, laidKinds := [.data, .data, .data], laidTests := true, laidLooks := .later }
def FnRecOneUptoCardSaid : Prop := Claim7.holds Tryd.pinned (.plain (OpenSpec.upto fnRecOneSpec)) fnRecOneUptoCard

/-- THE SECOND FORM's CARD OF 'laws.FnRecTwo'. -/
def fnRecTwoUptoCard : Claim7 := { stood := { row := fnRecTwoUptoRow, standIns := [], harness := (true, "9d198998d7ab36cc07988369fd99e2c6464aeba59a83a708040d14dade2f12e7"), looks := true }, kinds := [], alts := [], laidByText := true, laidKinds := [.data, .data, .data], laidTests := true, laidLooks := .later }
def FnRecTwoUptoCardSaid : Prop := Claim7.holds Tryd.pinned (.plain (OpenSpec.upto fnRecTwoSpec)) fnRecTwoUptoCard

/-- THE SECOND FORM's CARD OF 'laws.FnRecStrict'. -/
def fnRecStrictUptoCard : Claim7 := { stood := { row := fnRecStrictUptoRow, standIns := [], harness := (true, "9d198998d7ab36cc07988369fd99e2c6464aeba59a83a708040d14dade2f12e7"), looks := true }, kinds := [], alts := [], laidByText := true, laidKinds := [.data, .data, .data, .data, .sentinel, .sentinel, .pinned], laidTests := true, laidLooks := .later }
def FnRecStrictUptoCardSaid : Prop := Claim7.holds Tryd.pinned (.plain (OpenSpec.upto fnRecStrictSpec)) fnRecStrictUptoCard

/-- THE SECOND FORM's CARD OF 'laws.FnRecBack'. -/
def fnRecBackUptoCard : Claim7 := { stood := { row := fnRecBackUptoRow, standIns := [], harness := (true, "9d198998d7ab36cc07988369fd99e2c6464aeba59a83a708040d14dade2f12e7"), looks := true }, kinds := [], alts := [], laidByText := true, laidKinds := [.data, .data, .data, .data, .sentinel, .sentinel, .pinned], laidTests := true, laidLooks := .later }
def FnRecBackUptoCardSaid : Prop := Claim7.holds Tryd.pinned (.plain (OpenSpec.upto fnRecBackSpec)) fnRecBackUptoCard
end Rows
end Go.Proofs.YtoedphbikgoapaaDoor
