/-
  DERIVED. GIVEN WITH THE SEED: THE CARDS: each row of YtncdecmcdlfmmaaDoorRows.lean that lists a variable, with what it lists TIED to the program's text (the seventh form; the later family's looks); each row that meets fmt, with fmt's text TOLD by the authors' own Lean function (tested against real Go, not proved from fmt's source: count such statements apart). THE CARD IS WHAT COUNTS. Prove the row's statement (the work); the ties are given (YtncdecmcdlfmmaaDoorTie.lean); close each card by the builder's one call (the guide's Derived/Test/ToyasCard.lean, 'card_holds'). Laid BY PROGRAM, IN A SANDBOX (cutbox-door.mjs). By AI agents, Wed Nov 11 2026. No macro, syntax, notation, axiom, sorry.
-/
import Derived.Test.YtncdecmcdlfmmaaDoorRows
import GoSem.ClaimSeven
namespace Go.Proofs.YtncdecmcdlfmmaaDoor
namespace Rows

/-- THE TIED CARD OF 'laws.FnExactIsDesk'. -/
def fnExactIsDeskCard : Claim7 := { stood := { row := fnExactIsDeskRow, standIns := [], harness := (true, "d096009ed84eb1348e644cd275abc752e9e154cbb440fa89232054dff7d4a1fc"), looks := true }, kinds := [], alts := [], laidByText := true, laidKinds := [.data, .pinned], laidTests := true, laidLooks := .later }
def FnExactIsDeskCardSaid : Prop := Claim7.holds Tryd.pinned (.plain (OpenSpec.ofChange fnExactIsDeskSpec)) fnExactIsDeskCard

/-- THE TIED CARD OF 'laws.FnExactFirstDesk'. -/
def fnExactFirstDeskCard : Claim7 := { stood := { row := fnExactFirstDeskRow, standIns := [], harness := (true, "d096009ed84eb1348e644cd275abc752e9e154cbb440fa89232054dff7d4a1fc"), looks := true }, kinds := [], alts := [], laidByText := true, laidKinds := [.data, .data, .data, .sentinel, .sentinel], laidTests := true, laidLooks := .later }
def FnExactFirstDeskCardSaid : Prop := Claim7.holds Tryd.pinned (.plain (OpenSpec.ofChange fnExactFirstDeskSpec)) fnExactFirstDeskCard

/-- THE SECOND FORM's CARD OF 'laws.FnExactIsDesk'. -/
def fnExactIsDeskUptoCard : Claim7 := { stood := { row := fnExactIsDeskUptoRow, standIns := [], harness := (true, "d096009ed84eb1348e644cd275abc752e9e154cbb440fa89232054dff7d4a1fc"), looks := true }, kinds := [], alts := [], laidByText := true, laidKinds := [.data, .pinned], laidTests := true, laidLooks := .later }
def FnExactIsDeskUptoCardSaid : Prop := Claim7.holds Tryd.pinned (.plain (OpenSpec.upto fnExactIsDeskSpec)) fnExactIsDeskUptoCard

/-- THE SECOND FORM's CARD OF 'laws.FnExactFirstDesk'. -/
def fnExactFirstDeskUptoCard : Claim7 := { stood := { row := fnExactFirstDeskUptoRow, standIns := [], harness := (true, "d096009ed84eb1348e644cd275abc752e9e154cbb440fa89232054dff7d4a1fc"), looks := true }, kinds := [], alts := [], laidByText := true, laidKinds := [.data, .data, .data, .sentinel, .sentinel], laidTests := true, laidLooks := .later }
def FnExactFirstDeskUptoCardSaid : Prop := Claim7.holds Tryd.pinned (.plain (OpenSpec.upto fnExactFirstDeskSpec)) fnExactFirstDeskUptoCard
end Rows
end Go.Proofs.YtncdecmcdlfmmaaDoor
