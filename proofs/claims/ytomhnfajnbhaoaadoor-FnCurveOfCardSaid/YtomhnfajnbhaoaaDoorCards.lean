/-
  DERIVED. GIVEN WITH THE SEED: THE CARDS: each row of YtomhnfajnbhaoaaDoorRows.lean that lists a variable, with what it lists TIED to the program's text (the seventh form; the later family's looks); each row that meets fmt, with fmt's text TOLD by the authors' own Lean function (tested against real Go, not proved from fmt's source: count such statements apart). THE CARD IS WHAT COUNTS. Prove the row's statement (the work); the ties are given (YtomhnfajnbhaoaaDoorTie.lean); close each card by the builder's one call (the guide's Derived/Test/ToyasCard.lean, 'card_holds'). Laid BY PROGRAM, IN A SANDBOX (cutbox-door.mjs). By AI agents, Wed Nov 11 2026. No macro, syntax, notation, axiom, sorry.
-/
import Derived.Test.YtomhnfajnbhaoaaDoorRows
import GoSem.ClaimSeven
namespace Go.Proofs.YtomhnfajnbhaoaaDoor
namespace Rows

/-- THE TIED CARD OF 'laws.FnCurveOfFlat'. -/
def fnCurveOfFlatCard : Claim7 := { stood := { row := fnCurveOfFlatRow, standIns := [], harness := (true, "95d27ac4dac0df1ce309bb4364bfd2384e1cb6f2be0e502a3edce02036eee082"), looks := false }, kinds := [], alts := [], laidByText := true, laidKinds := [.sentinel], laidTests := true, laidLooks := .later }
def FnCurveOfFlatCardSaid : Prop := Claim7.holds Tryd.pinned (.plain (OpenSpec.ofChange fnCurveOfFlatSpec)) fnCurveOfFlatCard

/-- THE TIED CARD OF 'laws.FnCurveOfHigher'. -/
def fnCurveOfHigherCard : Claim7 := { stood := { row := fnCurveOfHigherRow, standIns := [], harness := (true, "95d27ac4dac0df1ce309bb4364bfd2384e1cb6f2be0e502a3edce02036eee082"), looks := false }, kinds := [], alts := [], laidByText := true, laidKinds := [.sentinel], laidTests := true, laidLooks := .later }
def FnCurveOfHigherCardSaid : Prop := Claim7.holds Tryd.pinned (.plain (OpenSpec.ofChange fnCurveOfHigherSpec)) fnCurveOfHigherCard

/-- THE TIED CARD OF 'laws.FnCurveOfPrefix'. -/
def fnCurveOfPrefixCard : Claim7 := { stood := { row := fnCurveOfPrefixRow, standIns := [], harness := (true, "95d27ac4dac0df1ce309bb4364bfd2384e1cb6f2be0e502a3edce02036eee082"), looks := false }, kinds := [], alts := [], laidByText := true, laidKinds := [.sentinel], laidTests := true, laidLooks := .later }
def FnCurveOfPrefixCardSaid : Prop := Claim7.holds Tryd.pinned (.plain (OpenSpec.ofChange fnCurveOfPrefixSpec)) fnCurveOfPrefixCard

/-- THE TIED CARD OF 'laws.FnExactCurveOf'. -/
def fnExactCurveOfCard : Claim7 := { stood := { row := fnExactCurveOfRow, standIns := [], harness := (true, "95d27ac4dac0df1ce309bb4364bfd2384e1cb6f2be0e502a3edce02036eee082"), looks := false }, kinds := [], alts := [], laidByText := true, laidKinds := [.sentinel], laidTests := true, laidLooks := .later }
def FnExactCurveOfCardSaid : Prop := Claim7.holds Tryd.pinned (.plain (OpenSpec.ofChange fnExactCurveOfSpec)) fnExactCurveOfCard

/-- THE TIED CARD OF 'laws.FnCurveOf'. -/
def fnCurveOfCard : Claim7 := { stood := { row := fnCurveOfRow, standIns := [], harness := (true, "95d27ac4dac0df1ce309bb4364bfd2384e1cb6f2be0e502a3edce02036eee082"), looks := false }, kinds := [], alts := [], laidByText := true, laidKinds := [.sentinel], laidTests := true, laidLooks := .later }
def FnCurveOfCardSaid : Prop := Claim7.holds Tryd.pinned (.plain (OpenSpec.ofChange fnCurveOfSpec)) fnCurveOfCard

/-- THE SECOND FORM's CARD OF 'laws.FnCurveOfFlat'. -/
def fnCurveOfFlatUptoCard : Claim7 := { stood := { row := fnCurveOfFlatUptoRow, standIns := [], harness := (true, "95d27ac4dac0df1ce309bb4364bfd2384e1cb6f2be0e502a3edce02036eee082"), looks := false }, kinds := [], alts := [], laidByText := true, laidKinds := [.sentinel], laidTests := true, laidLooks := .later }
def FnCurveOfFlatUptoCardSaid : Prop := Claim7.holds Tryd.pinned (.plain (OpenSpec.upto fnCurveOfFlatSpec)) fnCurveOfFlatUptoCard

/-- THE SECOND FORM's CARD OF 'laws.FnCurveOfHigher'. -/
def fnCurveOfHigherUptoCard : Claim7 := { stood := { row := fnCurveOfHigherUptoRow, standIns := [], harness := (true, "95d27ac4dac0df1ce309bb4364bfd2384e1cb6f2be0e502a3edce02036eee082"), looks := false }, kinds := [], alts := [], laidByText := true, laidKinds := [.sentinel], laidTests := true, laidLooks := .later }
def FnCurveOfHigherUptoCardSaid : Prop := Claim7.holds Tryd.pinned (.plain (OpenSpec.upto fnCurveOfHigherSpec)) fnCurveOfHigherUptoCard

/-- THE SECOND FORM's CARD OF 'laws.FnCurveOfPrefix'. -/
def fnCurveOfPrefixUptoCard : Claim7 := { stood := { row := fnCurveOfPrefixUptoRow, standIns := [], harness := (true, "95d27ac4dac0df1ce309bb4364bfd2384e1cb6f2be0e502a3edce02036eee082"), looks := false }, kinds := [], alts := [], laidByText := true, laidKinds := [.sentinel], laidTests := true, laidLooks := .later }
def FnCurveOfPrefixUptoCardSaid : Prop := Claim7.holds Tryd.pinned (.plain (OpenSpec.upto fnCurveOfPrefixSpec)) fnCurveOfPrefixUptoCard

/-- THE SECOND FORM's CARD OF 'laws.FnExactCurveOf'. -/
def fnExactCurveOfUptoCard : Claim7 := { stood := { row := fnExactCurveOfUptoRow, standIns := [], harness := (true, "95d27ac4dac0df1ce309bb4364bfd2384e1cb6f2be0e502a3edce02036eee082"), looks := false }, kinds := [], alts := [], laidByText := true, laidKinds := [.sentinel], laidTests := true, laidLooks := .later }
def FnExactCurveOfUptoCardSaid : Prop := Claim7.holds Tryd.pinned (.plain (OpenSpec.upto fnExactCurveOfSpec)) fnExactCurveOfUptoCard

/-- THE SECOND FORM's CARD OF 'laws.FnCurveOf'. -/
def fnCurveOfUptoCard : Claim7 := { stood := { row := fnCurveOfUptoRow, standIns := [], harness := (true, "95d27ac4dac0df1ce309bb4364bfd2384e1cb6f2be0e502a3edce02036eee082"), looks := false }, kinds := [], alts := [], laidByText := true, laidKinds := [.sentinel], laidTests := true, laidLooks := .later }
def FnCurveOfUptoCardSaid : Prop := Claim7.holds Tryd.pinned (.plain (OpenSpec.upto fnCurveOfSpec)) fnCurveOfUptoCard
end Rows
end Go.Proofs.YtomhnfajnbhaoaaDoor
