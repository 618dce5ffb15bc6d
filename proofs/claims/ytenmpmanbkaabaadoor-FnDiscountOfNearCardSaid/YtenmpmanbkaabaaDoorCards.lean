/-
  DERIVED. GIVEN WITH THE SEED: THE CARDS: each row of YtenmpmanbkaabaaDoorRows.lean that lists a variable, with what it lists TIED to the program's text (the seventh form; the later family's looks); each row that meets fmt, with fmt's text TOLD by the authors' own Lean function (tested against real Go, not proved from fmt's source: count such statements apart). THE CARD IS WHAT COUNTS. Prove the row's statement (the work); the ties are given (YtenmpmanbkaabaaDoorTie.lean); close each card by the builder's one call (the guide's Derived/Test/ToyasCard.lean, 'card_holds'). Laid BY PROGRAM, IN A SANDBOX (cutbox-door.mjs). By AI agents, Wed Nov 11 2026. No macro, syntax, notation, axiom, sorry.
-/
import Derived.Test.YtenmpmanbkaabaaDoorRows
import GoSem.ClaimSeven
namespace Go.Proofs.YtenmpmanbkaabaaDoor
namespace Rows

/-- THE TIED CARD OF 'laws.FnExactDiscountOf'. -/
def fnExactDiscountOfCard : Claim7 := { stood := { row := fnExactDiscountOfRow, standIns := [], harness := (true, "4c1bc1968f433dd14a68336cd8d9a5781b03ee124bf1887f9bf68fe0128c2f6b"), looks := true }, kinds := [], alts := [], laidByText := true, laidKinds := [.sentinel], laidTests := true, laidLooks := .later }
def FnExactDiscountOfCardSaid : Prop := Claim7.holds Tryd.pinned (.plain (OpenSpec.ofChange fnExactDiscountOfSpec)) fnExactDiscountOfCard

/-- THE TIED CARD OF 'laws.FnExactPowRange'. -/
def fnExactPowRangeCard : Claim7 := { stood := { row := fnExactPowRangeRow, standIns := [], harness := (true, "4c1bc1968f433dd14a68336cd8d9a5781b03ee124bf1887f9bf68fe0128c2f6b"), looks := true }, kinds := [], alts := [], laidByText := true, laidKinds := [.sentinel], laidTests := true, laidLooks := .later }
def FnExactPowRangeCardSaid : Prop := Claim7.holds Tryd.pinned (.plain (OpenSpec.ofChange fnExactPowRangeSpec)) fnExactPowRangeCard

/-- THE TIED CARD OF 'laws.FnDiscountOf'. -/
def fnDiscountOfCard : Claim7 := { stood := { row := fnDiscountOfRow, standIns := [], harness := (true, "4c1bc1968f433dd14a68336cd8d9a5781b03ee124bf1887f9bf68fe0128c2f6b"), looks := true }, kinds := [], alts := [], laidByText := true, laidKinds := [.sentinel], laidTests := true, laidLooks := .later }
def FnDiscountOfCardSaid : Prop := Claim7.holds Tryd.pinned (.plain (OpenSpec.ofChange fnDiscountOfSpec)) fnDiscountOfCard

/-- THE TIED CARD OF 'laws.FnDiscountOfNear'. -/
def fnDiscountOfNearCard : Claim7 := { stood := { row := fnDiscountOfNearRow, standIns := [], harness := (true, "4c1bc1968f433dd14a68336cd8d9a5781b03ee124bf1887f9bf68fe0128c2f6b"), looks := true }, kinds := [], alts := [], laidByText := true, laidKinds := [.sentinel], laidTests := true, laidLooks := .later }
def FnDiscountOfNearCardSaid : Prop := Claim7.holds Tryd.pinned (.plain (OpenSpec.ofChange fnDiscountOfNearSpec)) fnDiscountOfNearCard

/-- THE TIED CARD OF 'laws.FnDiscountOfPeriods'. -/
def fnDiscountOfPeriodsCard : Claim7 := { stood := { row := fnDiscountOfPeriodsRow, standIns := [], harness := (true, "4c1bc1968f433dd14a68336cd8d9a5781b03ee124bf1887f9bf68fe0128c2f6b"), looks := true }, kinds := [], alts := [], laidByText := true, laidKinds := [.sentinel], laidTests := true, laidLooks := .later }
def FnDiscountOfPeriodsCardSaid : Prop := Claim7.holds Tryd.pinned (.plain (OpenSpec.ofChange fnDiscountOfPeriodsSpec)) fnDiscountOfPeriodsCard

/-- THE TIED CARD OF 'laws.FnPowRange'. -/
def fnPowRangeCard : Claim7 := { stood := { row := fnPowRangeRow, standIns := [], harness := (true, "4c1bc1968f433dd14a68336cd8d9a5781b03ee124bf1887f9bf68fe0128c2f6b"), looks := true }, kinds := [], alts := [], laidByText := true, laidKinds := [.sentinel], laidTests := true, laidLooks := .later }
def FnPowRangeCardSaid : Prop := Claim7.holds Tryd.pinned (.plain (OpenSpec.ofChange fnPowRangeSpec)) fnPowRangeCard

/-- THE TIED CARD OF 'laws.FnPowRangeSum'. -/
def fnPowRangeSumCard : Claim7 := { stood := { row := fnPowRangeSumRow, standIns := [], harness := (true, "4c1bc1968f433dd14a68336cd8d9a5781b03ee124bf1887f9bf68fe0128c2f6b"), looks := true }, kinds := [], alts := [], laidByText := true, laidKinds := [.sentinel], laidTests := true, laidLooks := .later }
def FnPowRangeSumCardSaid : Prop := Claim7.holds Tryd.pinned (.plain (OpenSpec.ofChange fnPowRangeSumSpec)) fnPowRangeSumCard

/-- THE SECOND FORM's CARD OF 'laws.FnExactDiscountOf'. -/
def fnExactDiscountOfUptoCard : Claim7 := { stood := { row := fnExactDiscountOfUptoRow, standIns := [], harness := (true, "4c1bc1968f433dd14a68336cd8d9a5781b03ee124bf1887f9bf68fe0128c2f6b"), looks := true }, kinds := [], alts := [], laidByText := true, laidKinds := [.sentinel], laidTests := true, laidLooks := .later }
def FnExactDiscountOfUptoCardSaid : Prop := Claim7.holds Tryd.pinned (.plain (OpenSpec.upto fnExactDiscountOfSpec)) fnExactDiscountOfUptoCard

/-- THE SECOND FORM's CARD OF 'laws.FnExactPowRange'. -/
def fnExactPowRangeUptoCard : Claim7 := { stood := { row := fnExactPowRangeUptoRow, standIns := [], harness := (true, "4c1bc1968f433dd14a68336cd8d9a5781b03ee124bf1887f9bf68fe0128c2f6b"), looks := true }, kinds := [], alts := [], laidByText := true, laidKinds := [.sentinel], laidTests := true, laidLooks := .later }
def FnExactPowRangeUptoCardSaid : Prop := Claim7.holds Tryd.pinned (.plain (OpenSpec.upto fnExactPowRangeSpec)) fnExactPowRangeUptoCard

/-- THE SECOND FORM's CARD OF 'laws.FnDiscountOf'. -/
def fnDiscountOfUptoCard : Claim7 := { stood := { row := fnDiscountOfUptoRow, standIns := [], harness := (true, "4c1bc1968f433dd14a68336cd8d9a5781b03ee124bf1887f9bf68fe0128c2f6b"), looks := true }, kinds := [], alts := [], laidByText := true, laidKinds := [.sentinel], laidTests := true, laidLooks := .later }
def FnDiscountOfUptoCardSaid : Prop := Claim7.holds Tryd.pinned (.plain (OpenSpec.upto fnDiscountOfSpec)) fnDiscountOfUptoCard

/-- THE SECOND FORM's CARD OF 'laws.FnDiscountOfNear'. -/
def fnDiscountOfNearUptoCard : Claim7 := { stood := { row := fnDiscountOfNearUptoRow, standIns := [], harness := (true, "4c1bc1968f433dd14a68336cd8d9a5781b03ee124bf1887f9bf68fe0128c2f6b"), looks := true }, kinds := [], alts := [], laidByText := true, laidKinds := [.sentinel], laidTests := true, laidLooks := .later }
def FnDiscountOfNearUptoCardSaid : Prop := Claim7.holds Tryd.pinned (.plain (OpenSpec.upto fnDiscountOfNearSpec)) fnDiscountOfNearUptoCard

/-- THE SECOND FORM's CARD OF 'laws.FnDiscountOfPeriods'. -/
def fnDiscountOfPeriodsUptoCard : Claim7 := { stood := { row := fnDiscountOfPeriodsUptoRow, standIns := [], harness := (true, "4c1bc1968f433dd14a68336cd8d9a5781b03ee124bf1887f9bf68fe0128c2f6b"), looks := true }, kinds := [], alts := [], laidByText := true, laidKinds := [.sentinel], laidTests := true, laidLooks := .later }
def FnDiscountOfPeriodsUptoCardSaid : Prop := Claim7.holds Tryd.pinned (.plain (OpenSpec.upto fnDiscountOfPeriodsSpec)) fnDiscountOfPeriodsUptoCard

/-- THE SECOND FORM's CARD OF 'laws.FnPowRange'. -/
def fnPowRangeUptoCard : Claim7 := { stood := { row := fnPowRangeUptoRow, standIns := [], harness := (true, "4c1bc1968f433dd14a68336cd8d9a5781b03ee124bf1887f9bf68fe0128c2f6b"), looks := true }, kinds := [], alts := [], laidByText := true, laidKinds := [.sentinel], laidTests := true, laidLooks := .later }
def FnPowRangeUptoCardSaid : Prop := Claim7.holds Tryd.pinned (.plain (OpenSpec.upto fnPowRangeSpec)) fnPowRangeUptoCard

/-- THE SECOND FORM's CARD OF 'laws.FnPowRangeSum'. -/
def fnPowRangeSumUptoCard : Claim7 := { stood := { row := fnPowRangeSumUptoRow, standIns := [], harness := (true, "4c1bc1968f433dd14a68336cd8d9a5781b03ee124bf1887f9bf68fe0128c2f6b"), looks := true }, kinds := [], alts := [], laidByText := true, laidKinds := [.sentinel], laidTests := true, laidLooks := .later }
def FnPowRangeSumUptoCardSaid : Prop := Claim7.holds Tryd.pinned (.plain (OpenSpec.upto fnPowRangeSumSpec)) fnPowRangeSumUptoCard
end Rows
end Go.Proofs.YtenmpmanbkaabaaDoor
