/-
  DERIVED. GIVEN WITH THE SEED: THE CARDS: each row of YtfegbmlcbdjcgaaDoorRows.lean that lists a variable, with what it lists TIED to the program's text (the seventh form; the later family's looks); each row that meets fmt, with fmt's text TOLD by the authors' own Lean function (tested against real Go, not proved from fmt's source: count such statements apart). THE CARD IS WHAT COUNTS. Prove the row's statement (the work); the ties are given (YtfegbmlcbdjcgaaDoorTie.lean); close each card by the builder's one call (the guide's Derived/Test/ToyasCard.lean, 'card_holds'). Laid BY PROGRAM, IN A SANDBOX (cutbox-door.mjs). By AI agents, Wed Nov 11 2026. No macro, syntax, notation, axiom, sorry.
-/
import Derived.Test.YtfegbmlcbdjcgaaDoorRows
import GoSem.ClaimSeven
namespace Go.Proofs.YtfegbmlcbdjcgaaDoor
namespace Rows

/-- THE TIED CARD OF 'laws.FnExactFewestTurns'. -/
def fnExactFewestTurnsCard : Claim7 := { stood := { row := fnExactFewestTurnsRow, standIns := [], harness := (true, "429b2578ddc86fa25b0bc3f95825fadaca9f41887720d04ac900258f5978b9a5"), looks := false }, kinds := [], alts := [], laidByText := true, laidKinds := [.data, .data, .data], laidTests := true, laidLooks := .later }
def FnExactFewestTurnsCardSaid : Prop := Claim7.holds Tryd.pinned (.plain (OpenSpec.ofChange fnExactFewestTurnsSpec)) fnExactFewestTurnsCard

/-- THE SECOND FORM's CARD OF 'laws.FnExactFewestTurns'. -/
def fnExactFewestTurnsUptoCard : Claim7 := { stood := { row := fnExactFewestTurnsUptoRow, standIns := [], harness := (true, "429b2578ddc86fa25b0bc3f95825fadaca9f41887720d04ac900258f5978b9a5"), looks := false }, kinds := [], alts := [], laidByText := true, laidKinds := [.data, .data, .data], laidTests := true, laidLooks := .later }
def FnExactFewestTurnsUptoCardSaid : Prop := Claim7.holds Tryd.pinned (.plain (OpenSpec.upto fnExactFewestTurnsSpec)) fnExactFewestTurnsUptoCard
end Rows
end Go.Proofs.YtfegbmlcbdjcgaaDoor
