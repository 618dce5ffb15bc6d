/-
  DERIVED. GIVEN WITH THE SEED: THE CARDS: each row of YtbofmoelmhbpoaaDoorRows.lean that lists a variable, with what it lists TIED to the program's text (the seventh form; the later family's looks); each row that meets fmt, with fmt's text TOLD by the authors' own Lean function (tested against real Go, not proved from fmt's source: count such statements apart). THE CARD IS WHAT COUNTS. Prove the row's statement (the work); the ties are given (YtbofmoelmhbpoaaDoorTie.lean); close each card by the builder's one call (the guide's Derived/Test/ToyasCard.lean, 'card_holds'). Laid BY PROGRAM, IN A SANDBOX (cutbox-door.mjs). By AI agents, Wed Nov 11 2026. No macro, syntax, notation, axiom, sorry.
-/
import Derived.Test.YtbofmoelmhbpoaaDoorRows
import GoSem.ClaimSeven
namespace Go.Proofs.YtbofmoelmhbpoaaDoor
namespace Rows

/-- THE TIED CARD OF 'laws.FnSwapRateCurve'. -/
def fnSwapRateCurveCard : Claim7 := { stood := { row := fnSwapRateCurveRow, standIns := [], harness := (true, "cf6f5c0873e71410133ffe73d35277138c1ec376b9ef6875ac2c7a4cef3e9a78"), looks := true }, kinds := [], alts := [], laidByText := true, laidKinds := [.sentinel], laidTests := true, laidLooks := .later }
def FnSwapRateCurveCardSaid : Prop := Claim7.holds Tryd.pinned (.plain (OpenSpec.ofChange fnSwapRateCurveSpec)) fnSwapRateCurveCard

/-- THE TIED CARD OF 'laws.FnSwapRate'. -/
def fnSwapRateCard : Claim7 := { stood := { row := fnSwapRateRow, standIns := [], harness := (true, "cf6f5c0873e71410133ffe73d35277138c1ec376b9ef6875ac2c7a4cef3e9a78"), looks := true }, kinds := [], alts := [], laidByText := true, laidKinds := [.sentinel], laidTests := true, laidLooks := .later }
def FnSwapRateCardSaid : Prop := Claim7.holds Tryd.pinned (.plain (OpenSpec.ofChange fnSwapRateSpec)) fnSwapRateCard

/-- THE TIED CARD OF 'laws.FnExactSwapRate'. -/
def fnExactSwapRateCard : Claim7 := { stood := { row := fnExactSwapRateRow, standIns := [], harness := (true, "cf6f5c0873e71410133ffe73d35277138c1ec376b9ef6875ac2c7a4cef3e9a78"), looks := true }, kinds := [], alts := [], laidByText := true, laidKinds := [.sentinel], laidTests := true, laidLooks := .later }
def FnExactSwapRateCardSaid : Prop := Claim7.holds Tryd.pinned (.plain (OpenSpec.ofChange fnExactSwapRateSpec)) fnExactSwapRateCard

/-- THE SECOND FORM's CARD OF 'laws.FnSwapRateCurve'. -/
def fnSwapRateCurveUptoCard : Claim7 := { stood := { row := fnSwapRateCurveUptoRow, standIns := [], harness := (true, "cf6f5c0873e71410133ffe73d35277138c1ec376b9ef6875ac2c7a4cef3e9a78"), looks := true }, kinds := [], alts := [], laidByText := true, laidKinds := [.sentinel], laidTests := true, laidLooks := .later }
def FnSwapRateCurveUptoCardSaid : Prop := Claim7.holds Tryd.pinned (.plain (OpenSpec.upto fnSwapRateCurveSpec)) fnSwapRateCurveUptoCard

/-- THE SECOND FORM's CARD OF 'laws.FnSwapRate'. -/
def fnSwapRateUptoCard : Claim7 := { stood := { row := fnSwapRateUptoRow, standIns := [], harness := (true, "cf6f5c0873e71410133ffe73d35277138c1ec376b9ef6875ac2c7a4cef3e9a78"), looks := true }, kinds := [], alts := [], laidByText := true, laidKinds := [.sentinel], laidTests := true, laidLooks := .later }
def FnSwapRateUptoCardSaid : Prop := Claim7.holds Tryd.pinned (.plain (OpenSpec.upto fnSwapRateSpec)) fnSwapRateUptoCard

/-- THE SECOND FORM's CARD OF 'laws.FnExactSwapRate'. -/
def fnExactSwapRateUptoCard : Claim7 := { stood := { row := fnExactSwapRateUptoRow, standIns := [], harness := (true, "cf6f5c0873e71410133ffe73d35277138c1ec376b9ef6875ac2c7a4cef3e9a78"), looks := true }, kinds := [], alts := [], laidByText := true, laidKinds := [.sentinel], laidTests := true, laidLooks := .later }
def FnExactSwapRateUptoCardSaid : Prop := Claim7.holds Tryd.pinned (.plain (OpenSpec.upto fnExactSwapRateSpec)) fnExactSwapRateUptoCard
end Rows
end Go.Proofs.YtbofmoelmhbpoaaDoor
