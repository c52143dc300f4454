/-
  DERIVED. GIVEN WITH THE SEED: THE CARDS: each row of YtfoflpomfmbjoaaDoorRows.lean that lists a variable, with what it lists TIED to the program's text (the seventh form; the later family's looks); each row that meets fmt, with fmt's text TOLD by the authors' own Lean function (tested against real Go, not proved from fmt's source: count such statements apart). THE CARD IS WHAT COUNTS. Prove the row's statement (the work); the ties are given (YtfoflpomfmbjoaaDoorTie.lean); close each card by the builder's one call (the guide's Derived/Test/ToyasCard.lean, 'card_holds'). Laid BY PROGRAM, IN A SANDBOX (cutbox-door.mjs). By AI agents, Wed Nov 11 2026. No macro, syntax, notation, axiom, sorry.
-/
import Derived.Test.YtfoflpomfmbjoaaDoorRows
import GoSem.ClaimSeven
namespace Go.Proofs.YtfoflpomfmbjoaaDoor
namespace Rows

/-- THE TIED CARD OF 'laws.FnRiversMended'. -/
def fnRiversMendedCard : Claim7 := { stood := { row := fnRiversMendedRow, standIns := [], harness := (true, "bced2956939d11a045e40c1931cf5dd2a020e911adc3a4e2dc312508eaff62d9"), looks := false }, kinds := [], alts := [], laidByText := true, laidKinds := [.data, .pinned], laidTests := true, laidLooks := .later }
def FnRiversMendedCardSaid : Prop := Claim7.holds Tryd.pinned (.plain (OpenSpec.ofChange fnRiversMendedSpec)) fnRiversMendedCard

/-- THE TIED CARD OF 'laws.FnRiversCrossed'. -/
def fnRiversCrossedCard : Claim7 := { stood := { row := fnRiversCrossedRow, standIns := [], harness := (true, "bced2956939d11a045e40c1931cf5dd2a020e911adc3a4e2dc312508eaff62d9"), looks := false }, kinds := [], alts := [], laidByText := true, laidKinds := [.data, .pinned], laidTests := true, laidLooks := .later }
def FnRiversCrossedCardSaid : Prop := Claim7.holds Tryd.pinned (.plain (OpenSpec.ofChange fnRiversCrossedSpec)) fnRiversCrossedCard

/-- THE SECOND FORM's CARD OF 'laws.FnRiversMended'. -/
def fnRiversMendedUptoCard : Claim7 := { stood := { row := fnRiversMendedUptoRow, standIns := [], harness := (true, "bced2956939d11a045e40c1931cf5dd2a020e911adc3a4e2dc312508eaff62d9"), looks := false }, kinds := [], alts := [], laidByText := true, laidKinds := [.data, .pinned], laidTests := true, laidLooks := .later }
def FnRiversMendedUptoCardSaid : Prop := Claim7.holds Tryd.pinned (.plain (OpenSpec.upto fnRiversMendedSpec)) fnRiversMendedUptoCard

/-- THE SECOND FORM's CARD OF 'laws.FnRiversCrossed'. -/
def fnRiversCrossedUptoCard : Claim7 := { stood := { row := fnRiversCrossedUptoRow, standIns := [], harness := (true, "bced2956939d11a045e40c1931cf5dd2a020e911adc3a4e2dc312508eaff62d9"), looks := false }, kinds := [], alts := [], laidByText := true, laidKinds := [.data, .pinned], laidTests := true, laidLooks := .later }
def FnRiversCrossedUptoCardSaid : Prop := Claim7.holds Tryd.pinned (.plain (OpenSpec.upto fnRiversCrossedSpec)) fnRiversCrossedUptoCard
end Rows
end Go.Proofs.YtfoflpomfmbjoaaDoor
