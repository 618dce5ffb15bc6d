/-
  DERIVED. GIVEN WITH THE SEED: THE CARDS: each row of YtnfcljokgnebmaaDoorRows.lean that lists a variable, with what it lists TIED to the program's text (the seventh form; the later family's looks); each row that meets fmt, with fmt's text TOLD by the authors' own Lean function (tested against real Go, not proved from fmt's source: count such statements apart). THE CARD IS WHAT COUNTS. Prove the row's statement (the work); the ties are given (YtnfcljokgnebmaaDoorTie.lean); close each card by the builder's one call (the guide's Derived/Test/ToyasCard.lean, 'card_holds'). Laid BY PROGRAM, IN A SANDBOX (cutbox-door.mjs). By AI agents, Wed Nov 11 2026. No macro, syntax, notation, axiom, sorry.
-/
import Derived.Test.YtnfcljokgnebmaaDoorRows
import GoSem.ClaimSeven
namespace Go.Proofs.YtnfcljokgnebmaaDoor
namespace Rows

/-- THE TIED CARD OF 'laws.FnExactDaysIn'. -/
def fnExactDaysInCard : Claim7 := { stood := { row := fnExactDaysInRow, standIns := [], harness := (true, "db14496cfd83c91364344c8a5151baa7d0798c7bd9e3c87a90abae31e7974d82"), looks := false }, kinds := [], alts := [], laidByText := true, laidKinds := [.data], laidTests := true, laidLooks := .later }
def FnExactDaysInCardSaid : Prop := Claim7.holds Tryd.pinned (.plain (OpenSpec.ofChange fnExactDaysInSpec)) fnExactDaysInCard

/-- THE TIED CARD OF 'laws.FnExactValidDate'. -/
def fnExactValidDateCard : Claim7 := { stood := { row := fnExactValidDateRow, standIns := [], harness := (true, "db14496cfd83c91364344c8a5151baa7d0798c7bd9e3c87a90abae31e7974d82"), looks := false }, kinds := [], alts := [], laidByText := true, laidKinds := [.data], laidTests := true, laidLooks := .later }
def FnExactValidDateCardSaid : Prop := Claim7.holds Tryd.pinned (.plain (OpenSpec.ofChange fnExactValidDateSpec)) fnExactValidDateCard

/-- THE TIED CARD OF 'laws.FnDaysIn'. -/
def fnDaysInCard : Claim7 := { stood := { row := fnDaysInRow, standIns := [], harness := (true, "db14496cfd83c91364344c8a5151baa7d0798c7bd9e3c87a90abae31e7974d82"), looks := false }, kinds := [], alts := [], laidByText := true, laidKinds := [.data], laidTests := true, laidLooks := .later }
def FnDaysInCardSaid : Prop := Claim7.holds Tryd.pinned (.plain (OpenSpec.ofChange fnDaysInSpec)) fnDaysInCard

/-- THE TIED CARD OF 'laws.FnDaysInLeap'. -/
def fnDaysInLeapCard : Claim7 := { stood := { row := fnDaysInLeapRow, standIns := [], harness := (true, "db14496cfd83c91364344c8a5151baa7d0798c7bd9e3c87a90abae31e7974d82"), looks := false }, kinds := [], alts := [], laidByText := true, laidKinds := [.data], laidTests := true, laidLooks := .later }
def FnDaysInLeapCardSaid : Prop := Claim7.holds Tryd.pinned (.plain (OpenSpec.ofChange fnDaysInLeapSpec)) fnDaysInLeapCard

/-- THE TIED CARD OF 'laws.FnExactDateOf'. -/
def fnExactDateOfCard : Claim7 := { stood := { row := fnExactDateOfRow, standIns := [], harness := (true, "db14496cfd83c91364344c8a5151baa7d0798c7bd9e3c87a90abae31e7974d82"), looks := false }, kinds := [], alts := [], laidByText := true, laidKinds := [.data], laidTests := true, laidLooks := .later }
def FnExactDateOfCardSaid : Prop := Claim7.holds Tryd.pinned (.plain (OpenSpec.ofChange fnExactDateOfSpec)) fnExactDateOfCard

/-- THE TIED CARD OF 'laws.FnAdjustDayNear'. -/
def fnAdjustDayNearCard : Claim7 := { stood := { row := fnAdjustDayNearRow, standIns := [], harness := (true, "db14496cfd83c91364344c8a5151baa7d0798c7bd9e3c87a90abae31e7974d82"), looks := false }, kinds := [], alts := [], laidByText := true, laidKinds := [.data], laidTests := true, laidLooks := .later }
def FnAdjustDayNearCardSaid : Prop := Claim7.holds Tryd.pinned (.plain (OpenSpec.ofChange fnAdjustDayNearSpec)) fnAdjustDayNearCard

/-- THE TIED CARD OF 'laws.FnExactAdjustDay'. -/
def fnExactAdjustDayCard : Claim7 := { stood := { row := fnExactAdjustDayRow, standIns := [], harness := (true, "db14496cfd83c91364344c8a5151baa7d0798c7bd9e3c87a90abae31e7974d82"), looks := false }, kinds := [], alts := [], laidByText := true, laidKinds := [.data], laidTests := true, laidLooks := .later }
def FnExactAdjustDayCardSaid : Prop := Claim7.holds Tryd.pinned (.plain (OpenSpec.ofChange fnExactAdjustDaySpec)) fnExactAdjustDayCard

/-- THE TIED CARD OF 'laws.FnAddBusiness'. -/
def fnAddBusinessCard : Claim7 := { stood := { row := fnAddBusinessRow, standIns := [], harness := (true, "db14496cfd83c91364344c8a5151baa7d0798c7bd9e3c87a90abae31e7974d82"), looks := false }, kinds := [], alts := [], laidByText := true, laidKinds := [.data], laidTests := true, laidLooks := .later }
def FnAddBusinessCardSaid : Prop := Claim7.holds Tryd.pinned (.plain (OpenSpec.ofChange fnAddBusinessSpec)) fnAddBusinessCard

/-- THE TIED CARD OF 'laws.FnAdjustDay'. -/
def fnAdjustDayCard : Claim7 := { stood := { row := fnAdjustDayRow, standIns := [], harness := (true, "db14496cfd83c91364344c8a5151baa7d0798c7bd9e3c87a90abae31e7974d82"), looks := false }, kinds := [], alts := [], laidByText := true, laidKinds := [.data], laidTests := true, laidLooks := .later }
def FnAdjustDayCardSaid : Prop := Claim7.holds Tryd.pinned (.plain (OpenSpec.ofChange fnAdjustDaySpec)) fnAdjustDayCard

/-- THE TIED CARD OF 'laws.FnAdjustDayMonth'. -/
def fnAdjustDayMonthCard : Claim7 := { stood := { row := fnAdjustDayMonthRow, standIns := [], harness := (true, "db14496cfd83c91364344c8a5151baa7d0798c7bd9e3c87a90abae31e7974d82"), looks := false }, kinds := [], alts := [], laidByText := true, laidKinds := [.data], laidTests := true, laidLooks := .later }
def FnAdjustDayMonthCardSaid : Prop := Claim7.holds Tryd.pinned (.plain (OpenSpec.ofChange fnAdjustDayMonthSpec)) fnAdjustDayMonthCard

/-- THE SECOND FORM's CARD OF 'laws.FnExactDaysIn'. -/
def fnExactDaysInUptoCard : Claim7 := { stood := { row := fnExactDaysInUptoRow, standIns := [], harness := (true, "db14496cfd83c91364344c8a5151baa7d0798c7bd9e3c87a90abae31e7974d82"), looks := false }, kinds := [], alts := [], laidByText := true, laidKinds := [.data], laidTests := true, laidLooks := .later }
def FnExactDaysInUptoCardSaid : Prop := Claim7.holds Tryd.pinned (.plain (OpenSpec.upto fnExactDaysInSpec)) fnExactDaysInUptoCard

/-- THE SECOND FORM's CARD OF 'laws.FnExactValidDate'. -/
def fnExactValidDateUptoCard : Claim7 := { stood := { row := fnExactValidDateUptoRow, standIns := [], harness := (true, "db14496cfd83c91364344c8a5151baa7d0798c7bd9e3c87a90abae31e7974d82"), looks := false }, kinds := [], alts := [], laidByText := true, laidKinds := [.data], laidTests := true, laidLooks := .later }
def FnExactValidDateUptoCardSaid : Prop := Claim7.holds Tryd.pinned (.plain (OpenSpec.upto fnExactValidDateSpec)) fnExactValidDateUptoCard

/-- THE SECOND FORM's CARD OF 'laws.FnDaysIn'. -/
def fnDaysInUptoCard : Claim7 := { stood := { row := fnDaysInUptoRow, standIns := [], harness := (true, "db14496cfd83c91364344c8a5151baa7d0798c7bd9e3c87a90abae31e7974d82"), looks := false }, kinds := [], alts := [], laidByText := true, laidKinds := [.data], laidTests := true, laidLooks := .later }
def FnDaysInUptoCardSaid : Prop := Claim7.holds Tryd.pinned (.plain (OpenSpec.upto fnDaysInSpec)) fnDaysInUptoCard

/-- THE SECOND FORM's CARD OF 'laws.FnDaysInLeap'. -/
def fnDaysInLeapUptoCard : Claim7 := { stood := { row := fnDaysInLeapUptoRow, standIns := [], harness := (true, "db14496cfd83c91364344c8a5151baa7d0798c7bd9e3c87a90abae31e7974d82"), looks := false }, kinds := [], alts := [], laidByText := true, laidKinds := [.data], laidTests := true, laidLooks := .later }
def FnDaysInLeapUptoCardSaid : Prop := Claim7.holds Tryd.pinned (.plain (OpenSpec.upto fnDaysInLeapSpec)) fnDaysInLeapUptoCard

/-- THE SECOND FORM's CARD OF 'laws.FnExactDateOf'. -/
def fnExactDateOfUptoCard : Claim7 := { stood := { row := fnExactDateOfUptoRow, standIns := [], harness := (true, "db14496cfd83c91364344c8a5151baa7d0798c7bd9e3c87a90abae31e7974d82"), looks := false }, kinds := [], alts := [], laidByText := true, laidKinds := [.data], laidTests := true, laidLooks := .later }
def FnExactDateOfUptoCardSaid : Prop := Claim7.holds Tryd.pinned (.plain (OpenSpec.upto fnExactDateOfSpec)) fnExactDateOfUptoCard

/-- THE SECOND FORM's CARD OF 'laws.FnAdjustDayNear'. -/
def fnAdjustDayNearUptoCard : Claim7 := { stood := { row := fnAdjustDayNearUptoRow, standIns := [], harness := (true, "db14496cfd83c91364344c8a5151baa7d0798c7bd9e3c87a90abae31e7974d82"), looks := false }, kinds := [], alts := [], laidByText := true, laidKinds := [.data], laidTests := true, laidLooks := .later }
def FnAdjustDayNearUptoCardSaid : Prop := Claim7.holds Tryd.pinned (.plain (OpenSpec.upto fnAdjustDayNearSpec)) fnAdjustDayNearUptoCard

/-- THE SECOND FORM's CARD OF 'laws.FnExactAdjustDay'. -/
def fnExactAdjustDayUptoCard : Claim7 := { stood := { row := fnExactAdjustDayUptoRow, standIns := [], harness := (true, "db14496cfd83c91364344c8a5151baa7d0798c7bd9e3c87a90abae31e7974d82"), looks := false }, kinds := [], alts := [], laidByText := true, laidKinds := [.data], laidTests := true, laidLooks := .later }
def FnExactAdjustDayUptoCardSaid : Prop := Claim7.holds Tryd.pinned (.plain (OpenSpec.upto fnExactAdjustDaySpec)) fnExactAdjustDayUptoCard

/-- THE SECOND FORM's CARD OF 'laws.FnAddBusiness'. -/
def fnAddBusinessUptoCard : Claim7 := { stood := { row := fnAddBusinessUptoRow, standIns := [], harness := (true, "db14496cfd83c91364344c8a5151baa7d0798c7bd9e3c87a90abae31e7974d82"), looks := false }, kinds := [], alts := [], laidByText := true, laidKinds := [.data], laidTests := true, laidLooks := .later }
def FnAddBusinessUptoCardSaid : Prop := Claim7.holds Tryd.pinned (.plain (OpenSpec.upto fnAddBusinessSpec)) fnAddBusinessUptoCard

/-- THE SECOND FORM's CARD OF 'laws.FnAdjustDay'. -/
def fnAdjustDayUptoCard : Claim7 := { stood := { row := fnAdjustDayUptoRow, standIns := [], harness := (true, "db14496cfd83c91364344c8a5151baa7d0798c7bd9e3c87a90abae31e7974d82"), looks := false }, kinds := [], alts := [], laidByText := true, laidKinds := [.data], laidTests := true, laidLooks := .later }
def FnAdjustDayUptoCardSaid : Prop := Claim7.holds Tryd.pinned (.plain (OpenSpec.upto fnAdjustDaySpec)) fnAdjustDayUptoCard

/-- THE SECOND FORM's CARD OF 'laws.FnAdjustDayMonth'. -/
def fnAdjustDayMonthUptoCard : Claim7 := { stood := { row := fnAdjustDayMonthUptoRow, standIns := [], harness := (true, "db14496cfd83c91364344c8a5151baa7d0798c7bd9e3c87a90abae31e7974d82"), looks := false }, kinds := [], alts := [], laidByText := true, laidKinds := [.data], laidTests := true, laidLooks := .later }
def FnAdjustDayMonthUptoCardSaid : Prop := Claim7.holds Tryd.pinned (.plain (OpenSpec.upto fnAdjustDayMonthSpec)) fnAdjustDayMonthUptoCard
end Rows
end Go.Proofs.YtnfcljokgnebmaaDoor
