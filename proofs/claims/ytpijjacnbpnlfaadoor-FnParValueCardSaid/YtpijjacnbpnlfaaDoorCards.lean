/-
  DERIVED. GIVEN WITH THE SEED: THE CARDS: each row of YtpijjacnbpnlfaaDoorRows.lean that lists a variable, with what it lists TIED to the program's text (the seventh form; the later family's looks); each row that meets fmt, with fmt's text TOLD by the authors' own Lean function (tested against real Go, not proved from fmt's source: count such statements apart). THE CARD IS WHAT COUNTS. Prove the row's statement (the work); the ties are given (YtpijjacnbpnlfaaDoorTie.lean); close each card by the builder's one call (the guide's Derived/Test/ToyasCard.lean, 'card_holds'). Laid BY PROGRAM, IN A SANDBOX (cutbox-door.mjs). By AI agents, Wed Nov 11 2026. No macro, syntax, notation, axiom, sorry.
-/
import Derived.Test.YtpijjacnbpnlfaaDoorRows
import GoSem.ClaimSeven
namespace Go.Proofs.YtpijjacnbpnlfaaDoor
namespace Rows

/-- THE TIED CARD OF 'laws.FnSureCurveParts'. -/
def fnSureCurvePartsCard : Claim7 := { stood := { row := fnSureCurvePartsRow, standIns := [], harness := (true, "d5151e5a87c38065ac858ec6abf19fc76270a58106ad77d628b97db4c22fe78c"), looks := true }, kinds := [], alts := [], laidByText := true, laidKinds := [.sentinel], laidTests := true, laidLooks := .later }
def FnSureCurvePartsCardSaid : Prop := Claim7.holds Tryd.pinned (.plain (OpenSpec.ofChange fnSureCurvePartsSpec)) fnSureCurvePartsCard

/-- THE TIED CARD OF 'laws.FnParValue'. -/
def fnParValueCard : Claim7 := { stood := { row := fnParValueRow, standIns := [], harness := (true, "d5151e5a87c38065ac858ec6abf19fc76270a58106ad77d628b97db4c22fe78c"), looks := true }, kinds := [], alts := [], laidByText := true, laidKinds := [.sentinel], laidTests := true, laidLooks := .later }
def FnParValueCardSaid : Prop := Claim7.holds Tryd.pinned (.plain (OpenSpec.ofChange fnParValueSpec)) fnParValueCard

/-- THE TIED CARD OF 'laws.FnSureCurve'. -/
def fnSureCurveCard : Claim7 := { stood := { row := fnSureCurveRow, standIns := [], harness := (true, "d5151e5a87c38065ac858ec6abf19fc76270a58106ad77d628b97db4c22fe78c"), looks := true }, kinds := [], alts := [], laidByText := true, laidKinds := [.sentinel], laidTests := true, laidLooks := .later }
def FnSureCurveCardSaid : Prop := Claim7.holds Tryd.pinned (.plain (OpenSpec.ofChange fnSureCurveSpec)) fnSureCurveCard

/-- THE TIED CARD OF 'laws.FnValueAt'. -/
def fnValueAtCard : Claim7 := { stood := { row := fnValueAtRow, standIns := [], harness := (true, "d5151e5a87c38065ac858ec6abf19fc76270a58106ad77d628b97db4c22fe78c"), looks := true }, kinds := [], alts := [], laidByText := true, laidKinds := [.sentinel], laidTests := true, laidLooks := .later }
def FnValueAtCardSaid : Prop := Claim7.holds Tryd.pinned (.plain (OpenSpec.ofChange fnValueAtSpec)) fnValueAtCard

/-- THE TIED CARD OF 'laws.FnValueAtYears'. -/
def fnValueAtYearsCard : Claim7 := { stood := { row := fnValueAtYearsRow, standIns := [], harness := (true, "d5151e5a87c38065ac858ec6abf19fc76270a58106ad77d628b97db4c22fe78c"), looks := true }, kinds := [], alts := [], laidByText := true, laidKinds := [.sentinel], laidTests := true, laidLooks := .later }
def FnValueAtYearsCardSaid : Prop := Claim7.holds Tryd.pinned (.plain (OpenSpec.ofChange fnValueAtYearsSpec)) fnValueAtYearsCard

/-- THE TIED CARD OF 'laws.FnForwardOf'. -/
def fnForwardOfCard : Claim7 := { stood := { row := fnForwardOfRow, standIns := [], harness := (true, "d5151e5a87c38065ac858ec6abf19fc76270a58106ad77d628b97db4c22fe78c"), looks := true }, kinds := [], alts := [], laidByText := true, laidKinds := [.sentinel], laidTests := true, laidLooks := .later }
def FnForwardOfCardSaid : Prop := Claim7.holds Tryd.pinned (.plain (OpenSpec.ofChange fnForwardOfSpec)) fnForwardOfCard

/-- THE SECOND FORM's CARD OF 'laws.FnSureCurveParts'. -/
def fnSureCurvePartsUptoCard : Claim7 := { stood := { row := fnSureCurvePartsUptoRow, standIns := [], harness := (true, "d5151e5a87c38065ac858ec6abf19fc76270a58106ad77d628b97db4c22fe78c"), looks := true }, kinds := [], alts := [], laidByText := true, laidKinds := [.sentinel], laidTests := true, laidLooks := .later }
def FnSureCurvePartsUptoCardSaid : Prop := Claim7.holds Tryd.pinned (.plain (OpenSpec.upto fnSureCurvePartsSpec)) fnSureCurvePartsUptoCard

/-- THE SECOND FORM's CARD OF 'laws.FnParValue'. -/
def fnParValueUptoCard : Claim7 := { stood := { row := fnParValueUptoRow, standIns := [], harness := (true, "d5151e5a87c38065ac858ec6abf19fc76270a58106ad77d628b97db4c22fe78c"), looks := true }, kinds := [], alts := [], laidByText := true, laidKinds := [.sentinel], laidTests := true, laidLooks := .later }
def FnParValueUptoCardSaid : Prop := Claim7.holds Tryd.pinned (.plain (OpenSpec.upto fnParValueSpec)) fnParValueUptoCard

/-- THE SECOND FORM's CARD OF 'laws.FnSureCurve'. -/
def fnSureCurveUptoCard : Claim7 := { stood := { row := fnSureCurveUptoRow, standIns := [], harness := (true, "d5151e5a87c38065ac858ec6abf19fc76270a58106ad77d628b97db4c22fe78c"), looks := true }, kinds := [], alts := [], laidByText := true, laidKinds := [.sentinel], laidTests := true, laidLooks := .later }
def FnSureCurveUptoCardSaid : Prop := Claim7.holds Tryd.pinned (.plain (OpenSpec.upto fnSureCurveSpec)) fnSureCurveUptoCard

/-- THE SECOND FORM's CARD OF 'laws.FnValueAt'. -/
def fnValueAtUptoCard : Claim7 := { stood := { row := fnValueAtUptoRow, standIns := [], harness := (true, "d5151e5a87c38065ac858ec6abf19fc76270a58106ad77d628b97db4c22fe78c"), looks := true }, kinds := [], alts := [], laidByText := true, laidKinds := [.sentinel], laidTests := true, laidLooks := .later }
def FnValueAtUptoCardSaid : Prop := Claim7.holds Tryd.pinned (.plain (OpenSpec.upto fnValueAtSpec)) fnValueAtUptoCard

/-- THE SECOND FORM's CARD OF 'laws.FnValueAtYears'. -/
def fnValueAtYearsUptoCard : Claim7 := { stood := { row := fnValueAtYearsUptoRow, standIns := [], harness := (true, "d5151e5a87c38065ac858ec6abf19fc76270a58106ad77d628b97db4c22fe78c"), looks := true }, kinds := [], alts := [], laidByText := true, laidKinds := [.sentinel], laidTests := true, laidLooks := .later }
def FnValueAtYearsUptoCardSaid : Prop := Claim7.holds Tryd.pinned (.plain (OpenSpec.upto fnValueAtYearsSpec)) fnValueAtYearsUptoCard

/-- THE SECOND FORM's CARD OF 'laws.FnForwardOf'. -/
def fnForwardOfUptoCard : Claim7 := { stood := { row := fnForwardOfUptoRow, standIns := [], harness := (true, "d5151e5a87c38065ac858ec6abf19fc76270a58106ad77d628b97db4c22fe78c"), looks := true }, kinds := [], alts := [], laidByText := true, laidKinds := [.sentinel], laidTests := true, laidLooks := .later }
def FnForwardOfUptoCardSaid : Prop := Claim7.holds Tryd.pinned (.plain (OpenSpec.upto fnForwardOfSpec)) fnForwardOfUptoCard
end Rows
end Go.Proofs.YtpijjacnbpnlfaaDoor
