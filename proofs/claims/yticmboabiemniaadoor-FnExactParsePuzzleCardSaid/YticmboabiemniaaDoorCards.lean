/-
  DERIVED. GIVEN WITH THE SEED: THE CARDS: each row of YticmboabiemniaaDoorRows.lean that lists a variable, with what it lists TIED to the program's text (the seventh form; the later family's looks); each row that meets fmt, with fmt's text TOLD by the authors' own Lean function (tested against real Go, not proved from fmt's source: count such statements apart). THE CARD IS WHAT COUNTS. Prove the row's statement (the work); the ties are given (YticmboabiemniaaDoorTie.lean); close each card by the builder's one call (the guide's Derived/Test/ToyasCard.lean, 'card_holds'). Laid BY PROGRAM, IN A SANDBOX (cutbox-door.mjs). By AI agents, Wed Nov 11 2026. No macro, syntax, notation, axiom, sorry.
-/
import Derived.Test.YticmboabiemniaaDoorRows
import GoSem.ClaimSeven
namespace Go.Proofs.YticmboabiemniaaDoor
namespace Rows

/-- THE TIED CARD OF 'laws.FnExactDoesFit'. -/
def fnExactDoesFitCard : Claim7 := { stood := { row := fnExactDoesFitRow, standIns := [], harness := (true, "a0f9969808958609d4dcbc1b6cb19f0f751c02739fc0dc043d9040cd902cf893"), looks := true }, kinds := [], alts := [], laidByText := true, laidKinds := [.data, .pinned], laidTests := true, laidLooks := .later }
def FnExactDoesFitCardSaid : Prop := Claim7.holds Tryd.pinned (.plain (OpenSpec.ofChange fnExactDoesFitSpec)) fnExactDoesFitCard

/-- THE TIED CARD OF 'laws.FnExactMakePuzzle'. -/
def fnExactMakePuzzleCard : Claim7 := { stood := { row := fnExactMakePuzzleRow, standIns := [], harness := (true, "a0f9969808958609d4dcbc1b6cb19f0f751c02739fc0dc043d9040cd902cf893"), looks := true }, kinds := [], alts := [], laidByText := true, laidKinds := [.data, .pinned], laidTests := true, laidLooks := .later }
def FnExactMakePuzzleCardSaid : Prop := Claim7.holds Tryd.pinned (.plain (OpenSpec.ofChange fnExactMakePuzzleSpec)) fnExactMakePuzzleCard

/-- THE TIED CARD OF 'laws.FnExactParsePuzzle'. -/
def fnExactParsePuzzleCard : Claim7 := { stood := { row := fnExactParsePuzzleRow, standIns := [], harness := (true, "a0f9969808958609d4dcbc1b6cb19f0f751c02739fc0dc043d9040cd902cf893"), looks := true }, kinds := [], alts := [], laidByText := true, laidKinds := [.data, .data, .data, .sentinel, .sentinel], laidTests := true, laidLooks := .later }
def FnExactParsePuzzleCardSaid : Prop := Claim7.holds Tryd.pinned (.plain (OpenSpec.ofChange fnExactParsePuzzleSpec)) fnExactParsePuzzleCard

/-- THE SECOND FORM's CARD OF 'laws.FnExactDoesFit'. -/
def fnExactDoesFitUptoCard : Claim7 := { stood := { row := fnExactDoesFitUptoRow, standIns := [], harness := (true, "a0f9969808958609d4dcbc1b6cb19f0f751c02739fc0dc043d9040cd902cf893"), looks := true }, kinds := [], alts := [], laidByText := true, laidKinds := [.data, .pinned], laidTests := true, laidLooks := .later }
def FnExactDoesFitUptoCardSaid : Prop := Claim7.holds Tryd.pinned (.plain (OpenSpec.upto fnExactDoesFitSpec)) fnExactDoesFitUptoCard

/-- THE SECOND FORM's CARD OF 'laws.FnExactMakePuzzle'. -/
def fnExactMakePuzzleUptoCard : Claim7 := { stood := { row := fnExactMakePuzzleUptoRow, standIns := [], harness := (true, "a0f9969808958609d4dcbc1b6cb19f0f751c02739fc0dc043d9040cd902cf893"), looks := true }, kinds := [], alts := [], laidByText := true, laidKinds := [.data, .pinned], laidTests := true, laidLooks := .later }
def FnExactMakePuzzleUptoCardSaid : Prop := Claim7.holds Tryd.pinned (.plain (OpenSpec.upto fnExactMakePuzzleSpec)) fnExactMakePuzzleUptoCard

/-- THE SECOND FORM's CARD OF 'laws.FnExactParsePuzzle'. -/
def fnExactParsePuzzleUptoCard : Claim7 := { stood := { row := fnExactParsePuzzleUptoRow, standIns := [], harness := (true, "a0f9969808958609d4dcbc1b6cb19f0f751c02739fc0dc043d9040cd902cf893"), looks := true }, kinds := [], alts := [], laidByText := true, laidKinds := [.data, .data, .data, .sentinel, .sentinel], laidTests := true, laidLooks := .later }
def FnExactParsePuzzleUptoCardSaid : Prop := Claim7.holds Tryd.pinned (.plain (OpenSpec.upto fnExactParsePuzzleSpec)) fnExactParsePuzzleUptoCard
end Rows
end Go.Proofs.YticmboabiemniaaDoor
