/-
  DERIVED. GIVEN WITH THE SEED: THE CARDS: each row of YtemigniflobdcaaDoorRows.lean that lists a variable, with what it lists TIED to the program's text (the seventh form; the later family's looks); each row that meets fmt, with fmt's text TOLD by the authors' own Lean function (tested against real Go, not proved from fmt's source: count such statements apart). THE CARD IS WHAT COUNTS. Prove the row's statement (the work); the ties are given (YtemigniflobdcaaDoorTie.lean); close each card by the builder's one call (the guide's Derived/Test/ToyasCard.lean, 'card_holds'). Laid BY PROGRAM, IN A SANDBOX (cutbox-door.mjs). By AI agents, Wed Nov 11 2026. No macro, syntax, notation, axiom, sorry.
-/
import Derived.Test.YtemigniflobdcaaDoorRows
import GoSem.ClaimSeven
namespace Go.Proofs.YtemigniflobdcaaDoor
namespace Rows

/-- THE TIED CARD OF 'laws.FnExactValidRange'. -/
def fnExactValidRangeCard : Claim7 := { stood := { row := fnExactValidRangeRow, standIns := [], harness := (true, "3bf1950f08578c85ee35fd1c9e25316423fba25d9d2eaa26ca3be3c04f0110d0"), looks := true }, kinds := [], alts := [], laidByText := true, laidKinds := [.sentinel], laidTests := true, laidLooks := .later }
def FnExactValidRangeCardSaid : Prop := Claim7.holds Tryd.pinned (.plain (OpenSpec.ofChange fnExactValidRangeSpec)) fnExactValidRangeCard

/-- THE TIED CARD OF 'laws.FnExactInRange'. -/
def fnExactInRangeCard : Claim7 := { stood := { row := fnExactInRangeRow, standIns := [], harness := (true, "3bf1950f08578c85ee35fd1c9e25316423fba25d9d2eaa26ca3be3c04f0110d0"), looks := true }, kinds := [], alts := [], laidByText := true, laidKinds := [.sentinel], laidTests := true, laidLooks := .later }
def FnExactInRangeCardSaid : Prop := Claim7.holds Tryd.pinned (.plain (OpenSpec.ofChange fnExactInRangeSpec)) fnExactInRangeCard

/-- THE TIED CARD OF 'laws.FnValidRange'. -/
def fnValidRangeCard : Claim7 := { stood := { row := fnValidRangeRow, standIns := [], harness := (true, "3bf1950f08578c85ee35fd1c9e25316423fba25d9d2eaa26ca3be3c04f0110d0"), looks := true }, kinds := [], alts := [], laidByText := true, laidKinds := [.sentinel], laidTests := true, laidLooks := .later }
def FnValidRangeCardSaid : Prop := Claim7.holds Tryd.pinned (.plain (OpenSpec.ofChange fnValidRangeSpec)) fnValidRangeCard

/-- THE TIED CARD OF 'laws.FnInRange'. -/
def fnInRangeCard : Claim7 := { stood := { row := fnInRangeRow, standIns := [], harness := (true, "3bf1950f08578c85ee35fd1c9e25316423fba25d9d2eaa26ca3be3c04f0110d0"), looks := true }, kinds := [], alts := [], laidByText := true, laidKinds := [.sentinel], laidTests := true, laidLooks := .later }
def FnInRangeCardSaid : Prop := Claim7.holds Tryd.pinned (.plain (OpenSpec.ofChange fnInRangeSpec)) fnInRangeCard

/-- THE TIED CARD OF 'laws.FnExactAddRange'. -/
def fnExactAddRangeCard : Claim7 := { stood := { row := fnExactAddRangeRow, standIns := [], harness := (true, "3bf1950f08578c85ee35fd1c9e25316423fba25d9d2eaa26ca3be3c04f0110d0"), looks := true }, kinds := [], alts := [], laidByText := true, laidKinds := [.sentinel], laidTests := true, laidLooks := .later }
def FnExactAddRangeCardSaid : Prop := Claim7.holds Tryd.pinned (.plain (OpenSpec.ofChange fnExactAddRangeSpec)) fnExactAddRangeCard

/-- THE TIED CARD OF 'laws.FnAddRangeThree'. -/
def fnAddRangeThreeCard : Claim7 := { stood := { row := fnAddRangeThreeRow, standIns := [], harness := (true, "3bf1950f08578c85ee35fd1c9e25316423fba25d9d2eaa26ca3be3c04f0110d0"), looks := true }, kinds := [], alts := [], laidByText := true, laidKinds := [.sentinel], laidTests := true, laidLooks := .later }
def FnAddRangeThreeCardSaid : Prop := Claim7.holds Tryd.pinned (.plain (OpenSpec.ofChange fnAddRangeThreeSpec)) fnAddRangeThreeCard

/-- THE TIED CARD OF 'laws.FnExactDivRange'. -/
def fnExactDivRangeCard : Claim7 := { stood := { row := fnExactDivRangeRow, standIns := [], harness := (true, "3bf1950f08578c85ee35fd1c9e25316423fba25d9d2eaa26ca3be3c04f0110d0"), looks := true }, kinds := [], alts := [], laidByText := true, laidKinds := [.sentinel], laidTests := true, laidLooks := .later }
def FnExactDivRangeCardSaid : Prop := Claim7.holds Tryd.pinned (.plain (OpenSpec.ofChange fnExactDivRangeSpec)) fnExactDivRangeCard

/-- THE TIED CARD OF 'laws.FnAddRange'. -/
def fnAddRangeCard : Claim7 := { stood := { row := fnAddRangeRow, standIns := [], harness := (true, "3bf1950f08578c85ee35fd1c9e25316423fba25d9d2eaa26ca3be3c04f0110d0"), looks := true }, kinds := [], alts := [], laidByText := true, laidKinds := [.sentinel], laidTests := true, laidLooks := .later }
def FnAddRangeCardSaid : Prop := Claim7.holds Tryd.pinned (.plain (OpenSpec.ofChange fnAddRangeSpec)) fnAddRangeCard

/-- THE TIED CARD OF 'laws.FnExactMulRange'. -/
def fnExactMulRangeCard : Claim7 := { stood := { row := fnExactMulRangeRow, standIns := [], harness := (true, "3bf1950f08578c85ee35fd1c9e25316423fba25d9d2eaa26ca3be3c04f0110d0"), looks := true }, kinds := [], alts := [], laidByText := true, laidKinds := [.sentinel], laidTests := true, laidLooks := .later }
def FnExactMulRangeCardSaid : Prop := Claim7.holds Tryd.pinned (.plain (OpenSpec.ofChange fnExactMulRangeSpec)) fnExactMulRangeCard

/-- THE TIED CARD OF 'laws.FnDivRangeOne'. -/
def fnDivRangeOneCard : Claim7 := { stood := { row := fnDivRangeOneRow, standIns := [], harness := (true, "3bf1950f08578c85ee35fd1c9e25316423fba25d9d2eaa26ca3be3c04f0110d0"), looks := true }, kinds := [], alts := [], laidByText := true, laidKinds := [.sentinel], laidTests := true, laidLooks := .later }
def FnDivRangeOneCardSaid : Prop := Claim7.holds Tryd.pinned (.plain (OpenSpec.ofChange fnDivRangeOneSpec)) fnDivRangeOneCard

/-- THE TIED CARD OF 'laws.FnMulRange'. -/
def fnMulRangeCard : Claim7 := { stood := { row := fnMulRangeRow, standIns := [], harness := (true, "3bf1950f08578c85ee35fd1c9e25316423fba25d9d2eaa26ca3be3c04f0110d0"), looks := true }, kinds := [], alts := [], laidByText := true, laidKinds := [.sentinel], laidTests := true, laidLooks := .later }
def FnMulRangeCardSaid : Prop := Claim7.holds Tryd.pinned (.plain (OpenSpec.ofChange fnMulRangeSpec)) fnMulRangeCard

/-- THE TIED CARD OF 'laws.FnMulRangeInside'. -/
def fnMulRangeInsideCard : Claim7 := { stood := { row := fnMulRangeInsideRow, standIns := [], harness := (true, "3bf1950f08578c85ee35fd1c9e25316423fba25d9d2eaa26ca3be3c04f0110d0"), looks := true }, kinds := [], alts := [], laidByText := true, laidKinds := [.sentinel], laidTests := true, laidLooks := .later }
def FnMulRangeInsideCardSaid : Prop := Claim7.holds Tryd.pinned (.plain (OpenSpec.ofChange fnMulRangeInsideSpec)) fnMulRangeInsideCard

/-- THE TIED CARD OF 'laws.FnDivRange'. -/
def fnDivRangeCard : Claim7 := { stood := { row := fnDivRangeRow, standIns := [], harness := (true, "3bf1950f08578c85ee35fd1c9e25316423fba25d9d2eaa26ca3be3c04f0110d0"), looks := true }, kinds := [], alts := [], laidByText := true, laidKinds := [.sentinel], laidTests := true, laidLooks := .later }
def FnDivRangeCardSaid : Prop := Claim7.holds Tryd.pinned (.plain (OpenSpec.ofChange fnDivRangeSpec)) fnDivRangeCard

/-- THE SECOND FORM's CARD OF 'laws.FnExactValidRange'. -/
def fnExactValidRangeUptoCard : Claim7 := { stood := { row := fnExactValidRangeUptoRow, standIns := [], harness := (true, "3bf1950f08578c85ee35fd1c9e25316423fba25d9d2eaa26ca3be3c04f0110d0"), looks := true }, kinds := [], alts := [], laidByText := true, laidKinds := [.sentinel], laidTests := true, laidLooks := .later }
def FnExactValidRangeUptoCardSaid : Prop := Claim7.holds Tryd.pinned (.plain (OpenSpec.upto fnExactValidRangeSpec)) fnExactValidRangeUptoCard

/-- THE SECOND FORM's CARD OF 'laws.FnExactInRange'. -/
def fnExactInRangeUptoCard : Claim7 := { stood := { row := fnExactInRangeUptoRow, standIns := [], harness := (true, "3bf1950f08578c85ee35fd1c9e25316423fba25d9d2eaa26ca3be3c04f0110d0"), looks := true }, kinds := [], alts := [], laidByText := true, laidKinds := [.sentinel], laidTests := true, laidLooks := .later }
def FnExactInRangeUptoCardSaid : Prop := Claim7.holds Tryd.pinned (.plain (OpenSpec.upto fnExactInRangeSpec)) fnExactInRangeUptoCard

/-- THE SECOND FORM's CARD OF 'laws.FnValidRange'. -/
def fnValidRangeUptoCard : Claim7 := { stood := { row := fnValidRangeUptoRow, standIns := [], harness := (true, "3bf1950f08578c85ee35fd1c9e25316423fba25d9d2eaa26ca3be3c04f0110d0"), looks := true }, kinds := [], alts := [], laidByText := true, laidKinds := [.sentinel], laidTests := true, laidLooks := .later }
def FnValidRangeUptoCardSaid : Prop := Claim7.holds Tryd.pinned (.plain (OpenSpec.upto fnValidRangeSpec)) fnValidRangeUptoCard

/-- THE SECOND FORM's CARD OF 'laws.FnInRange'. -/
def fnInRangeUptoCard : Claim7 := { stood := { row := fnInRangeUptoRow, standIns := [], harness := (true, "3bf1950f08578c85ee35fd1c9e25316423fba25d9d2eaa26ca3be3c04f0110d0"), looks := true }, kinds := [], alts := [], laidByText := true, laidKinds := [.sentinel], laidTests := true, laidLooks := .later }
def FnInRangeUptoCardSaid : Prop := Claim7.holds Tryd.pinned (.plain (OpenSpec.upto fnInRangeSpec)) fnInRangeUptoCard

/-- THE SECOND FORM's CARD OF 'laws.FnExactAddRange'. -/
def fnExactAddRangeUptoCard : Claim7 := { stood := { row := fnExactAddRangeUptoRow, standIns := [], harness := (true, "3bf1950f08578c85ee35fd1c9e25316423fba25d9d2eaa26ca3be3c04f0110d0"), looks := true }, kinds := [], alts := [], laidByText := true, laidKinds := [.sentinel], laidTests := true, laidLooks := .later }
def FnExactAddRangeUptoCardSaid : Prop := Claim7.holds Tryd.pinned (.plain (OpenSpec.upto fnExactAddRangeSpec)) fnExactAddRangeUptoCard

/-- THE SECOND FORM's CARD OF 'laws.FnAddRangeThree'. -/
def fnAddRangeThreeUptoCard : Claim7 := { stood := { row := fnAddRangeThreeUptoRow, standIns := [], harness := (true, "3bf1950f08578c85ee35fd1c9e25316423fba25d9d2eaa26ca3be3c04f0110d0"), looks := true }, kinds := [], alts := [], laidByText := true, laidKinds := [.sentinel], laidTests := true, laidLooks := .later }
def FnAddRangeThreeUptoCardSaid : Prop := Claim7.holds Tryd.pinned (.plain (OpenSpec.upto fnAddRangeThreeSpec)) fnAddRangeThreeUptoCard

/-- THE SECOND FORM's CARD OF 'laws.FnExactDivRange'. -/
def fnExactDivRangeUptoCard : Claim7 := { stood := { row := fnExactDivRangeUptoRow, standIns := [], harness := (true, "3bf1950f08578c85ee35fd1c9e25316423fba25d9d2eaa26ca3be3c04f0110d0"), looks := true }, kinds := [], alts := [], laidByText := true, laidKinds := [.sentinel], laidTests := true, laidLooks := .later }
def FnExactDivRangeUptoCardSaid : Prop := Claim7.holds Tryd.pinned (.plain (OpenSpec.upto fnExactDivRangeSpec)) fnExactDivRangeUptoCard

/-- THE SECOND FORM's CARD OF 'laws.FnAddRange'. -/
def fnAddRangeUptoCard : Claim7 := { stood := { row := fnAddRangeUptoRow, standIns := [], harness := (true, "3bf1950f08578c85ee35fd1c9e25316423fba25d9d2eaa26ca3be3c04f0110d0"), looks := true }, kinds := [], alts := [], laidByText := true, laidKinds := [.sentinel], laidTests := true, laidLooks := .later }
def FnAddRangeUptoCardSaid : Prop := Claim7.holds Tryd.pinned (.plain (OpenSpec.upto fnAddRangeSpec)) fnAddRangeUptoCard

/-- THE SECOND FORM's CARD OF 'laws.FnExactMulRange'. -/
def fnExactMulRangeUptoCard : Claim7 := { stood := { row := fnExactMulRangeUptoRow, standIns := [], harness := (true, "3bf1950f08578c85ee35fd1c9e25316423fba25d9d2eaa26ca3be3c04f0110d0"), looks := true }, kinds := [], alts := [], laidByText := true, laidKinds := [.sentinel], laidTests := true, laidLooks := .later }
def FnExactMulRangeUptoCardSaid : Prop := Claim7.holds Tryd.pinned (.plain (OpenSpec.upto fnExactMulRangeSpec)) fnExactMulRangeUptoCard

/-- THE SECOND FORM's CARD OF 'laws.FnDivRangeOne'. -/
def fnDivRangeOneUptoCard : Claim7 := { stood := { row := fnDivRangeOneUptoRow, standIns := [], harness := (true, "3bf1950f08578c85ee35fd1c9e25316423fba25d9d2eaa26ca3be3c04f0110d0"), looks := true }, kinds := [], alts := [], laidByText := true, laidKinds := [.sentinel], laidTests := true, laidLooks := .later }
def FnDivRangeOneUptoCardSaid : Prop := Claim7.holds Tryd.pinned (.plain (OpenSpec.upto fnDivRangeOneSpec)) fnDivRangeOneUptoCard

/-- THE SECOND FORM's CARD OF 'laws.FnMulRange'. -/
def fnMulRangeUptoCard : Claim7 := { stood := { row := fnMulRangeUptoRow, standIns := [], harness := (true, "3bf1950f08578c85ee35fd1c9e25316423fba25d9d2eaa26ca3be3c04f0110d0"), looks := true }, kinds := [], alts := [], laidByText := true, laidKinds := [.sentinel], laidTests := true, laidLooks := .later }
def FnMulRangeUptoCardSaid : Prop := Claim7.holds Tryd.pinned (.plain (OpenSpec.upto fnMulRangeSpec)) fnMulRangeUptoCard

/-- THE SECOND FORM's CARD OF 'laws.FnMulRangeInside'. -/
def fnMulRangeInsideUptoCard : Claim7 := { stood := { row := fnMulRangeInsideUptoRow, standIns := [], harness := (true, "3bf1950f08578c85ee35fd1c9e25316423fba25d9d2eaa26ca3be3c04f0110d0"), looks := true }, kinds := [], alts := [], laidByText := true, laidKinds := [.sentinel], laidTests := true, laidLooks := .later }
def FnMulRangeInsideUptoCardSaid : Prop := Claim7.holds Tryd.pinned (.plain (OpenSpec.upto fnMulRangeInsideSpec)) fnMulRangeInsideUptoCard

/-- THE SECOND FORM's CARD OF 'laws.FnDivRange'. -/
def fnDivRangeUptoCard : Claim7 := { stood := { row := fnDivRangeUptoRow, standIns := [], harness := (true, "3bf1950f08578c85ee35fd1c9e25316423fba25d9d2eaa26ca3be3c04f0110d0"), looks := true }, kinds := [], alts := [], laidByText := true, laidKinds := [.sentinel], laidTests := true, laidLooks := .later }
def FnDivRangeUptoCardSaid : Prop := Claim7.holds Tryd.pinned (.plain (OpenSpec.upto fnDivRangeSpec)) fnDivRangeUptoCard
end Rows
end Go.Proofs.YtemigniflobdcaaDoor
