/-
  DERIVED. GIVEN WITH THE SEED: THE CARDS: each row of YtblmcfebfdegbaaDoorRows.lean that lists a variable, with what it lists TIED to the program's text (the seventh form; the later family's looks); each row that meets fmt, with fmt's text TOLD by the authors' own Lean function (tested against real Go, not proved from fmt's source: count such statements apart). THE CARD IS WHAT COUNTS. Prove the row's statement (the work); the ties are given (YtblmcfebfdegbaaDoorTie.lean); close each card by the builder's one call (the guide's Derived/Test/ToyasCard.lean, 'card_holds'). Laid BY PROGRAM, IN A SANDBOX (cutbox-door.mjs). By AI agents, Wed Nov 11 2026. No macro, syntax, notation, axiom, sorry.
-/
import Derived.Test.YtblmcfebfdegbaaDoorRows
import GoSem.ClaimSeven
namespace Go.Proofs.YtblmcfebfdegbaaDoor
namespace Rows

/-- THE TIED CARD OF 'ephemerislaw1.PageChecks'. -/
def pageChecksCard : Claim7 := { stood := { row := pageChecksRow, standIns := [], harness := (true, "94162f15287cc02b5177588b4a9cda726d418b64e1f2c0db0951201f5a9c6557"), looks := true }, kinds := [], alts := [], laidByText := true, laidKinds := [.data, .pinned], laidTests := true, laidLooks := .later }
def PageChecksCardSaid : Prop := Claim7.holds Tryd.pinned (.plain (OpenSpec.ofChange pageChecksSpec)) pageChecksCard

/-- THE TIED CARD OF 'ephemerislaw1.SpanChecks'. -/
def spanChecksCard : Claim7 := { stood := { row := spanChecksRow, standIns := [], harness := (true, "94162f15287cc02b5177588b4a9cda726d418b64e1f2c0db0951201f5a9c6557"), looks := true }, kinds := [], alts := [], laidByText := true, laidKinds := [.data, .data, .data, .data, .sentinel, .sentinel, .pinned], laidTests := true, laidLooks := .later }
def SpanChecksCardSaid : Prop := Claim7.holds Tryd.pinned (.plain (OpenSpec.ofChange spanChecksSpec)) spanChecksCard

/-- THE TIED CARD OF 'ephemerislaw1.NumeralPads'. -/
def numeralPadsCard : Claim7 := { stood := { row := numeralPadsRow, standIns := [], harness := (true, "94162f15287cc02b5177588b4a9cda726d418b64e1f2c0db0951201f5a9c6557"), looks := true }, kinds := [], alts := [], laidByText := true, laidKinds := [.data, .data, .data, .data], laidTests := true, laidLooks := .later }
def NumeralPadsCardSaid : Prop := Claim7.holds Tryd.pinned (.plain (OpenSpec.ofChange numeralPadsSpec)) numeralPadsCard

/-- THE TIED CARD OF 'ephemerislaw1.FeastChecks'. -/
def feastChecksCard : Claim7 := { stood := { row := feastChecksRow, standIns := [], harness := (true, "94162f15287cc02b5177588b4a9cda726d418b64e1f2c0db0951201f5a9c6557"), looks := true }, kinds := [], alts := [], laidByText := true, laidKinds := [.data, .listed, .data, .data, .pinned], laidTests := true, laidLooks := .later }
def FeastChecksCardSaid : Prop := Claim7.holds Tryd.pinned (.plain (OpenSpec.ofChange feastChecksSpec)) feastChecksCard

/-- THE SECOND FORM's CARD OF 'ephemerislaw1.PageChecks'. -/
def pageChecksUptoCard : Claim7 := { stood := { row := pageChecksUptoRow, standIns := [], harness := (true, "94162f15287cc02b5177588b4a9cda726d418b64e1f2c0db0951201f5a9c6557"), looks := true }, kinds := [], alts := [], laidByText := true, laidKinds := [.data, .pinned], laidTests := true, laidLooks := .later }
def PageChecksUptoCardSaid : Prop := Claim7.holds Tryd.pinned (.plain (OpenSpec.upto pageChecksSpec)) pageChecksUptoCard

/-- THE SECOND FORM's CARD OF 'ephemerislaw1.SpanChecks'. -/
def spanChecksUptoCard : Claim7 := { stood := { row := spanChecksUptoRow, standIns := [], harness := (true, "94162f15287cc02b5177588b4a9cda726d418b64e1f2c0db0951201f5a9c6557"), looks := true }, kinds := [], alts := [], laidByText := true, laidKinds := [.data, .data, .data, .data, .sentinel, .sentinel, .pinned], laidTests := true, laidLooks := .later }
def SpanChecksUptoCardSaid : Prop := Claim7.holds Tryd.pinned (.plain (OpenSpec.upto spanChecksSpec)) spanChecksUptoCard

/-- THE SECOND FORM's CARD OF 'ephemerislaw1.NumeralPads'. -/
def numeralPadsUptoCard : Claim7 := { stood := { row := numeralPadsUptoRow, standIns := [], harness := (true, "94162f15287cc02b5177588b4a9cda726d418b64e1f2c0db0951201f5a9c6557"), looks := true }, kinds := [], alts := [], laidByText := true, laidKinds := [.data, .data, .data, .data], laidTests := true, laidLooks := .later }
def NumeralPadsUptoCardSaid : Prop := Claim7.holds Tryd.pinned (.plain (OpenSpec.upto numeralPadsSpec)) numeralPadsUptoCard

/-- THE SECOND FORM's CARD OF 'ephemerislaw1.FeastChecks'. -/
def feastChecksUptoCard : Claim7 := { stood := { row := feastChecksUptoRow, standIns := [], harness := (true, "94162f15287cc02b5177588b4a9cda726d418b64e1f2c0db0951201f5a9c6557"), looks := true }, kinds := [], alts := [], laidByText := true, laidKinds := [.data, .listed, .data, .data, .pinned], laidTests := true, laidLooks := .later }
def FeastChecksUptoCardSaid : Prop := Claim7.holds Tryd.pinned (.plain (OpenSpec.upto feastChecksSpec)) feastChecksUptoCard
end Rows
end Go.Proofs.YtblmcfebfdegbaaDoor
