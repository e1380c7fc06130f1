/-
  DERIVED. GIVEN WITH THE SEED: THE CARDS: each row of YtjgfbamloldkfaaDoorRows.lean that lists a variable, with what it lists TIED to the program's text (the seventh form; the later family's looks); each row that meets fmt, with fmt's text TOLD by the authors' own Lean function (tested against real Go, not proved from fmt's source: count such statements apart). THE CARD IS WHAT COUNTS. Prove the row's statement (the work); the ties are given (YtjgfbamloldkfaaDoorTie.lean); close each card by the builder's one call (the guide's Derived/Test/ToyasCard.lean, 'card_holds'). Laid BY PROGRAM, IN A SANDBOX (cutbox-door.mjs). By AI agents, Wed Nov 11 2026. No macro, syntax, notation, axiom, sorry.
-/
import Derived.Test.YtjgfbamloldkfaaDoorRows
import GoSem.ClaimSeven
namespace Go.Proofs.YtjgfbamloldkfaaDoor
namespace Rows

/-- THE TIED CARD OF 'laws.FnExactFormatCharge'. -/
def fnExactFormatChargeCard : Claim7 := { stood := { row := fnExactFormatChargeRow, standIns := [], harness := (true, "08a1c6f96ed861ff53c21775ce0c3b16f9d3daf2aa84af051976b433101abf90"), looks := true }, kinds := [], alts := [], laidByText := true, laidKinds := [.data, .data, .data], laidTests := true, laidLooks := .later }
def FnExactFormatChargeCardSaid : Prop := Claim7.holds Tryd.pinned (.plain (OpenSpec.ofChange fnExactFormatChargeSpec)) fnExactFormatChargeCard

/-- THE TIED CARD OF 'laws.FnExactParseRange'. -/
def fnExactParseRangeCard : Claim7 := { stood := { row := fnExactParseRangeRow, standIns := [], harness := (true, "08a1c6f96ed861ff53c21775ce0c3b16f9d3daf2aa84af051976b433101abf90"), looks := true }, kinds := [], alts := [], laidByText := true, laidKinds := [.data, .data, .data, .sentinel, .sentinel], laidTests := true, laidLooks := .later }
def FnExactParseRangeCardSaid : Prop := Claim7.holds Tryd.pinned (.plain (OpenSpec.ofChange fnExactParseRangeSpec)) fnExactParseRangeCard

/-- THE TIED CARD OF 'laws.FnExactFormatCracker'. -/
def fnExactFormatCrackerCard : Claim7 := { stood := { row := fnExactFormatCrackerRow, standIns := [], harness := (true, "08a1c6f96ed861ff53c21775ce0c3b16f9d3daf2aa84af051976b433101abf90"), looks := true }, kinds := [], alts := [], laidByText := true, laidKinds := [.data, .data, .data], laidTests := true, laidLooks := .later }
def FnExactFormatCrackerCardSaid : Prop := Claim7.holds Tryd.pinned (.plain (OpenSpec.ofChange fnExactFormatCrackerSpec)) fnExactFormatCrackerCard

/-- THE TIED CARD OF 'laws.FnExactFormatTable'. -/
def fnExactFormatTableCard : Claim7 := { stood := { row := fnExactFormatTableRow, standIns := [], harness := (true, "08a1c6f96ed861ff53c21775ce0c3b16f9d3daf2aa84af051976b433101abf90"), looks := true }, kinds := [], alts := [], laidByText := true, laidKinds := [.data, .data, .data], laidTests := true, laidLooks := .later }
def FnExactFormatTableCardSaid : Prop := Claim7.holds Tryd.pinned (.plain (OpenSpec.ofChange fnExactFormatTableSpec)) fnExactFormatTableCard

/-- THE TIED CARD OF 'laws.FnExactParseTable'. -/
def fnExactParseTableCard : Claim7 := { stood := { row := fnExactParseTableRow, standIns := [], harness := (true, "08a1c6f96ed861ff53c21775ce0c3b16f9d3daf2aa84af051976b433101abf90"), looks := true }, kinds := [], alts := [], laidByText := true, laidKinds := [.data, .data, .data, .data, .sentinel, .sentinel, .pinned], laidTests := true, laidLooks := .later }
def FnExactParseTableCardSaid : Prop := Claim7.holds Tryd.pinned (.plain (OpenSpec.ofChange fnExactParseTableSpec)) fnExactParseTableCard

/-- THE TIED CARD OF 'laws.FnIntegerEncodings'. -/
def fnIntegerEncodingsCard : Claim7 := { stood := { row := fnIntegerEncodingsRow, standIns := [], harness := (true, "08a1c6f96ed861ff53c21775ce0c3b16f9d3daf2aa84af051976b433101abf90"), looks := true }, kinds := [], alts := [], laidByText := true, laidKinds := [.data, .data, .data, .sentinel, .sentinel], laidTests := true, laidLooks := .later }
def FnIntegerEncodingsCardSaid : Prop := Claim7.holds Tryd.pinned (.plain (OpenSpec.ofChange fnIntegerEncodingsSpec)) fnIntegerEncodingsCard

/-- THE SECOND FORM's CARD OF 'laws.FnExactFormatCharge'. -/
def fnExactFormatChargeUptoCard : Claim7 := { stood := { row := fnExactFormatChargeUptoRow, standIns := [], harness := (true, "08a1c6f96ed861ff53c21775ce0c3b16f9d3daf2aa84af051976b433101abf90"), looks := true }, kinds := [], alts := [], laidByText := true, laidKinds := [.data, .data, .data], laidTests := true, laidLooks := .later }
def FnExactFormatChargeUptoCardSaid : Prop := Claim7.holds Tryd.pinned (.plain (OpenSpec.upto fnExactFormatChargeSpec)) fnExactFormatChargeUptoCard

/-- THE SECOND FORM's CARD OF 'laws.FnExactParseRange'. -/
def fnExactParseRangeUptoCard : Claim7 := { stood := { row := fnExactParseRangeUptoRow, standIns := [], harness := (true, "08a1c6f96ed861ff53c21775ce0c3b16f9d3daf2aa84af051976b433101abf90"), looks := true }, kinds := [], alts := [], laidByText := true, laidKinds := [.data, .data, .data, .sentinel, .sentinel], laidTests := true, laidLooks := .later }
def FnExactParseRangeUptoCardSaid : Prop := Claim7.holds Tryd.pinned (.plain (OpenSpec.upto fnExactParseRangeSpec)) fnExactParseRangeUptoCard

/-- THE SECOND FORM's CARD OF 'laws.FnExactFormatCracker'. -/
def fnExactFormatCrackerUptoCard : Claim7 := { stood := { row := fnExactFormatCrackerUptoRow, standIns := [], harness := (true, "08a1c6f96ed861ff53c21775ce0c3b16f9d3daf2aa84af051976b433101abf90"), looks := true }, kinds := [], alts := [], laidByText := true, laidKinds := [.data, .data, .data], laidTests := true, laidLooks := .later }
def FnExactFormatCrackerUptoCardSaid : Prop := Claim7.holds Tryd.pinned (.plain (OpenSpec.upto fnExactFormatCrackerSpec)) fnExactFormatCrackerUptoCard

/-- THE SECOND FORM's CARD OF 'laws.FnExactFormatTable'. -/
def fnExactFormatTableUptoCard : Claim7 := { stood := { row := fnExactFormatTableUptoRow, standIns := [], harness := (true, "08a1c6f96ed861ff53c21775ce0c3b16f9d3daf2aa84af051976b433101abf90"), looks := true }, kinds := [], alts := [], laidByText := true, laidKinds := [.data, .data, .data], laidTests := true, laidLooks := .later }
def FnExactFormatTableUptoCardSaid : Prop := Claim7.holds Tryd.pinned (.plain (OpenSpec.upto fnExactFormatTableSpec)) fnExactFormatTableUptoCard

/-- THE SECOND FORM's CARD OF 'laws.FnExactParseTable'. -/
def fnExactParseTableUptoCard : Claim7 := { stood := { row := fnExactParseTableUptoRow, standIns := [], harness := (true, "08a1c6f96ed861ff53c21775ce0c3b16f9d3daf2aa84af051976b433101abf90"), looks := true }, kinds := [], alts := [], laidByText := true, laidKinds := [.data, .data, .data, .data, .sentinel, .sentinel, .pinned], laidTests := true, laidLooks := .later }
def FnExactParseTableUptoCardSaid : Prop := Claim7.holds Tryd.pinned (.plain (OpenSpec.upto fnExactParseTableSpec)) fnExactParseTableUptoCard

/-- THE SECOND FORM's CARD OF 'laws.FnIntegerEncodings'. -/
def fnIntegerEncodingsUptoCard : Claim7 := { stood := { row := fnIntegerEncodingsUptoRow, standIns := [], harness := (true, "08a1c6f96ed861ff53c21775ce0c3b16f9d3daf2aa84af051976b433101abf90"), looks := true }, kinds := [], alts := [], laidByText := true, laidKinds := [.data, .data, .data, .sentinel, .sentinel], laidTests := true, laidLooks := .later }
def FnIntegerEncodingsUptoCardSaid : Prop := Claim7.holds Tryd.pinned (.plain (OpenSpec.upto fnIntegerEncodingsSpec)) fnIntegerEncodingsUptoCard
end Rows
end Go.Proofs.YtjgfbamloldkfaaDoor
