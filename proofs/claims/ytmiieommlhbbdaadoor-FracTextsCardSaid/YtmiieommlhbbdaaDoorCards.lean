/-
  DERIVED. GIVEN WITH THE SEED: THE CARDS: each row of YtmiieommlhbbdaaDoorRows.lean that lists a variable, with what it lists TIED to the program's text (the seventh form; the later family's looks); each row that meets fmt, with fmt's text TOLD by the authors' own Lean function (tested against real Go, not proved from fmt's source: count such statements apart). THE CARD IS WHAT COUNTS. Prove the row's statement (the work); the ties are given (YtmiieommlhbbdaaDoorTie.lean); close each card by the builder's one call (the guide's Derived/Test/ToyasCard.lean, 'card_holds'). Laid BY PROGRAM, IN A SANDBOX (cutbox-door.mjs). By AI agents, Wed Nov 11 2026. No macro, syntax, notation, axiom, sorry.
-/
import Derived.Test.YtmiieommlhbbdaaDoorRows
import GoSem.ClaimSeven
namespace Go.Proofs.YtmiieommlhbbdaaDoor
namespace Rows

/-- THE TIED CARD OF 'ephemerislaw1.ZonetextPrints'. -/
def zonetextPrintsCard : Claim7 := { stood := { row := zonetextPrintsRow, standIns := [], harness := (true, "0e0a97666db3e8136a7d6741627c3921c6afc6d2881ba7ae17e1d41948011ba5"), looks := true }, kinds := [], alts := [], laidByText := true, laidKinds := [.data, .data, .data, .data, .pinned], laidTests := true, laidLooks := .later }
def ZonetextPrintsCardSaid : Prop := Claim7.holds Tryd.pinned (.plain (OpenSpec.ofChange zonetextPrintsSpec)) zonetextPrintsCard

/-- THE TIED CARD OF 'ephemerislaw1.FracTexts'. -/
def fracTextsCard : Claim7 := { stood := { row := fracTextsRow, standIns := [], harness := (true, "0e0a97666db3e8136a7d6741627c3921c6afc6d2881ba7ae17e1d41948011ba5"), looks := true }, kinds := [], alts := [], laidByText := true, laidKinds := [.data, .data, .data, .sentinel, .sentinel], laidTests := true, laidLooks := .later }
def FracTextsCardSaid : Prop := Claim7.holds Tryd.pinned (.plain (OpenSpec.ofChange fracTextsSpec)) fracTextsCard

/-- THE SECOND FORM's CARD OF 'ephemerislaw1.ZonetextPrints'. -/
def zonetextPrintsUptoCard : Claim7 := { stood := { row := zonetextPrintsUptoRow, standIns := [], harness := (true, "0e0a97666db3e8136a7d6741627c3921c6afc6d2881ba7ae17e1d41948011ba5"), looks := true }, kinds := [], alts := [], laidByText := true, laidKinds := [.data, .data, .data, .data, .pinned], laidTests := true, laidLooks := .later }
def ZonetextPrintsUptoCardSaid : Prop := Claim7.holds Tryd.pinned (.plain (OpenSpec.upto zonetextPrintsSpec)) zonetextPrintsUptoCard

/-- THE SECOND FORM's CARD OF 'ephemerislaw1.FracTexts'. -/
def fracTextsUptoCard : Claim7 := { stood := { row := fracTextsUptoRow, standIns := [], harness := (true, "0e0a97666db3e8136a7d6741627c3921c6afc6d2881ba7ae17e1d41948011ba5"), looks := true }, kinds := [], alts := [], laidByText := true, laidKinds := [.data, .data, .data, .sentinel, .sentinel], laidTests := true, laidLooks := .later }
def FracTextsUptoCardSaid : Prop := Claim7.holds Tryd.pinned (.plain (OpenSpec.upto fracTextsSpec)) fracTextsUptoCard
end Rows
end Go.Proofs.YtmiieommlhbbdaaDoor
