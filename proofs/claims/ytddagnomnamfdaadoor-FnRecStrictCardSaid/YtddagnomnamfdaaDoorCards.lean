/-
  DERIVED. GIVEN WITH THE SEED: THE CARDS: each row of YtddagnomnamfdaaDoorRows.lean that lists a variable, with what it lists TIED to the program's text (the seventh form; the later family's looks); each row that meets fmt, with fmt's text TOLD by the authors' own Lean function (tested against real Go, not proved from fmt's source: count such statements apart). THE CARD IS WHAT COUNTS. Prove the row's statement (the work); the ties are given (YtddagnomnamfdaaDoorTie.lean); close each card by the builder's one call (the guide's Derived/Test/ToyasCard.lean, 'card_holds'). Laid BY PROGRAM, IN A SANDBOX (cutbox-door.mjs). By AI agents, Wed Nov 11 2026. No macro, syntax, notation, axiom, sorry.
-/
import Derived.Test.YtddagnomnamfdaaDoorRows
import GoSem.ClaimSeven
namespace Go.Proofs.YtddagnomnamfdaaDoor
namespace Rows

/-- THE TIED CARD OF 'laws.FnRecCut'. -/
def fnRecCutCard : Claim7 := { stood := { row := fnRecCutRow, standIns := [], harness := (true, "d90604005d5089d8a7fd2a1042b9583a2739b51e5a80dd870e7e4251b7e04b3f"), looks := true }, kinds := [], alts := [], laidByText := true, laidKinds := [.data, .data, .data, .data, .sentinel, .sentinel, .pinned], laidTests := true, laidLooks := .later }
def FnRecCutCardSaid : Prop := Claim7.holds Tryd.pinned (.plain (OpenSpec.ofChange fnRecCutSpec)) fnRecCutCard

/-- THE TIED CARD OF 'laws.FnExactRecRead'. -/
def fnExactRecReadCard : Claim7 := { stood := { row := fnExactRecReadRow, standIns := [], harness := (true, "d90604005d5089d8a7fd2a1042b9583a2739b51e5a80dd870e7e4251b7e04b3f"), looks := true }, kinds := [], alts := [], laidByText := true, laidKinds := [.data, .data, .data, .data, .sentinel, .sentinel, .pinned], laidTests := true, laidLooks := .later }
def FnExactRecReadCardSaid : Prop := Claim7.holds Tryd.pinned (.plain (OpenSpec.ofChange fnExactRecReadSpec)) fnExactRecReadCard

/-- THE TIED CARD OF 'laws.FnRecStrict'. -/
def fnRecStrictCard : Claim7 := { stood := { row := fnRecStrictRow, standIns := [], harness := (true, "d90604005d5089d8a7fd2a1042b9583a2739b51e5a80dd870e7e4251b7e04b3f"), looks := true }, kinds := [], alts := [], laidByText := true, laidKinds := [.data, .data, .data, .data, .sentinel, .sentinel, .pinned], laidTests := true, laidLooks := .later }
def FnRecStrictCardSaid : Prop := Claim7.holds Tryd.pinned (.plain (OpenSpec.ofChange fnRecStrictSpec)) fnRecStrictCard

/-- THE TIED CARD OF 'laws.FnRecBack'. -/
def fnRecBackCard : Claim7 := { stood := { row := fnRecBackRow, standIns := [], harness := (true, "d90604005d5089d8a7fd2a1042b9583a2739b51e5a80dd870e7e4251b7e04b3f"), looks := true }, kinds := [], alts := [], laidByText := true, laidKinds := [.data, .data, .data, .data, .sentinel, .sentinel, .pinned], laidTests := true, laidLooks := .later }
def FnRecBackCardSaid : Prop := Claim7.holds Tryd.pinned (.plain (OpenSpec.ofChange fnRecBackSpec)) fnRecBackCard

/-- THE SECOND FORM's CARD OF 'laws.FnRecCut'. -/
def fnRecCutUptoCard : Claim7 := { stood := { row := fnRecCutUptoRow, standIns := [], harness := (true, "d90604005d5089d8a7fd2a1042b9583a2739b51e5a80dd870e7e4251b7e04b3f"), looks := true }, kinds := [], alts := [], laidByText := true, laidKinds := [.data, .data, .data, .data, .sentinel, .sentinel, .pinned], laidTests := true, laidLooks := .later }
def FnRecCutUptoCardSaid : Prop := Claim7.holds Tryd.pinned (.plain (OpenSpec.upto fnRecCutSpec)) fnRecCutUptoCard

/-- THE SECOND FORM's CARD OF 'laws.FnExactRecRead'. -/
def fnExactRecReadUptoCard : Claim7 := { stood := { row := fnExactRecReadUptoRow, standIns := [], harness := (true, "d90604005d5089d8a7fd2a1042b9583a2739b51e5a80dd870e7e4251b7e04b3f"), looks := true }, kinds := [], alts := [], laidByText := true, laidKinds := [.data, .data, .data, .data, .sentinel, .sentinel, .pinned], laidTests := true, laidLooks := .later }
def FnExactRecReadUptoCardSaid : Prop := Claim7.holds Tryd.pinned (.plain (OpenSpec.upto fnExactRecReadSpec)) fnExactRecReadUptoCard

/-- THE SECOND FORM's CARD OF 'laws.FnRecStrict'. -/
def fnRecStrictUptoCard : Claim7 := { stood := { row := fnRecStrictUptoRow, standIns := [], harness := (true, "d90604005d5089d8a7fd2a1042b9583a2739b51e5a80dd870e7e4251b7e04b3f"), looks := true }, kinds := [], alts := [], laidByText := true, laidKinds := [.data, .data, .data, .data, .sentinel, .sentinel, .pinned], laidTests := true, laidLooks := .later }
def FnRecStrictUptoCardSaid : Prop := Claim7.holds Tryd.pinned (.plain (OpenSpec.upto fnRecStrictSpec)) fnRecStrictUptoCard

/-- THE SECOND FORM's CARD OF 'laws.FnRecBack'. -/
def fnRecBackUptoCard : Claim7 := { stood := { row := fnRecBackUptoRow, standIns := [], harness := (true, "d90604005d5089d8a7fd2a1042b9583a2739b51e5a80dd870e7e4251b7e04b3f"), looks := true }, kinds := [], alts := [], laidByText := true, laidKinds := [.data, .data, .data, .data, .sentinel, .sentinel, .pinned], laidTests := true, laidLooks := .later }
def FnRecBackUptoCardSaid : Prop := Claim7.holds Tryd.pinned (.plain (OpenSpec.upto fnRecBackSpec)) fnRecBackUptoCard
end Rows
end Go.Proofs.YtddagnomnamfdaaDoor
