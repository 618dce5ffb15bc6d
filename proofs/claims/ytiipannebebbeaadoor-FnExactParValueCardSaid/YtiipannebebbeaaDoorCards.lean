/-
  DERIVED. GIVEN WITH THE SEED: THE CARDS: each row of YtiipannebebbeaaDoorRows.lean that lists a variable, with what it lists TIED to the program's text (the seventh form; the later family's looks); each row that meets fmt, with fmt's text TOLD by the authors' own Lean function (tested against real Go, not proved from fmt's source: count such statements apart). THE CARD IS WHAT COUNTS. Prove the row's statement (the work); the ties are given (YtiipannebebbeaaDoorTie.lean); close each card by the builder's one call (the guide's Derived/Test/ToyasCard.lean, 'card_holds'). Laid BY PROGRAM, IN A SANDBOX (cutbox-door.mjs). By AI agents, Wed Nov 11 2026. No macro, syntax, notation, axiom, sorry.
-/
import Derived.Test.YtiipannebebbeaaDoorRows
import GoSem.ClaimSeven
namespace Go.Proofs.YtiipannebebbeaaDoor
namespace Rows

/-- THE TIED CARD OF 'laws.FnExactSureCurve'. -/
def fnExactSureCurveCard : Claim7 := { stood := { row := fnExactSureCurveRow, standIns := [], harness := (true, "da830804d13481f8993b52bc8ff124a6537df6ff0d1d180de424741bd58cd0bb"), looks := false }, kinds := [], alts := [], laidByText := true, laidKinds := [.sentinel], laidTests := true, laidLooks := .later }
def FnExactSureCurveCardSaid : Prop := Claim7.holds Tryd.pinned (.plain (OpenSpec.ofChange fnExactSureCurveSpec)) fnExactSureCurveCard

/-- THE TIED CARD OF 'laws.FnExactParValue'. -/
def fnExactParValueCard : Claim7 := { stood := { row := fnExactParValueRow, standIns := [], harness := (true, "da830804d13481f8993b52bc8ff124a6537df6ff0d1d180de424741bd58cd0bb"), looks := false }, kinds := [], alts := [], laidByText := true, laidKinds := [.sentinel], laidTests := true, laidLooks := .later }
def FnExactParValueCardSaid : Prop := Claim7.holds Tryd.pinned (.plain (OpenSpec.ofChange fnExactParValueSpec)) fnExactParValueCard

/-- THE TIED CARD OF 'laws.FnExactForwardOf'. -/
def fnExactForwardOfCard : Claim7 := { stood := { row := fnExactForwardOfRow, standIns := [], harness := (true, "da830804d13481f8993b52bc8ff124a6537df6ff0d1d180de424741bd58cd0bb"), looks := false }, kinds := [], alts := [], laidByText := true, laidKinds := [.sentinel], laidTests := true, laidLooks := .later }
def FnExactForwardOfCardSaid : Prop := Claim7.holds Tryd.pinned (.plain (OpenSpec.ofChange fnExactForwardOfSpec)) fnExactForwardOfCard

/-- THE TIED CARD OF 'laws.FnExactValueAt'. -/
def fnExactValueAtCard : Claim7 := { stood := { row := fnExactValueAtRow, standIns := [], harness := (true, "da830804d13481f8993b52bc8ff124a6537df6ff0d1d180de424741bd58cd0bb"), looks := false }, kinds := [], alts := [], laidByText := true, laidKinds := [.sentinel], laidTests := true, laidLooks := .later }
def FnExactValueAtCardSaid : Prop := Claim7.holds Tryd.pinned (.plain (OpenSpec.ofChange fnExactValueAtSpec)) fnExactValueAtCard

/-- THE SECOND FORM's CARD OF 'laws.FnExactSureCurve'. -/
def fnExactSureCurveUptoCard : Claim7 := { stood := { row := fnExactSureCurveUptoRow, standIns := [], harness := (true, "da830804d13481f8993b52bc8ff124a6537df6ff0d1d180de424741bd58cd0bb"), looks := false }, kinds := [], alts := [], laidByText := true, laidKinds := [.sentinel], laidTests := true, laidLooks := .later }
def FnExactSureCurveUptoCardSaid : Prop := Claim7.holds Tryd.pinned (.plain (OpenSpec.upto fnExactSureCurveSpec)) fnExactSureCurveUptoCard

/-- THE SECOND FORM's CARD OF 'laws.FnExactParValue'. -/
def fnExactParValueUptoCard : Claim7 := { stood := { row := fnExactParValueUptoRow, standIns := [], harness := (true, "da830804d13481f8993b52bc8ff124a6537df6ff0d1d180de424741bd58cd0bb"), looks := false }, kinds := [], alts := [], laidByText := true, laidKinds := [.sentinel], laidTests := true, laidLooks := .later }
def FnExactParValueUptoCardSaid : Prop := Claim7.holds Tryd.pinned (.plain (OpenSpec.upto fnExactParValueSpec)) fnExactParValueUptoCard

/-- THE SECOND FORM's CARD OF 'laws.FnExactForwardOf'. -/
def fnExactForwardOfUptoCard : Claim7 := { stood := { row := fnExactForwardOfUptoRow, standIns := [], harness := (true, "da830804d13481f8993b52bc8ff124a6537df6ff0d1d180de424741bd58cd0bb"), looks := false }, kinds := [], alts := [], laidByText := true, laidKinds := [.sentinel], laidTests := true, laidLooks := .later }
def FnExactForwardOfUptoCardSaid : Prop := Claim7.holds Tryd.pinned (.plain (OpenSpec.upto fnExactForwardOfSpec)) fnExactForwardOfUptoCard

/-- THE SECOND FORM's CARD OF 'laws.FnExactValueAt'. -/
def fnExactValueAtUptoCard : Claim7 := { stood := { row := fnExactValueAtUptoRow, standIns := [], harness := (true, "da830804d13481f8993b52bc8ff124a6537df6ff0d1d180de424741bd58cd0bb"), looks := false }, kinds := [], alts := [], laidByText := true, laidKinds := [.sentinel], laidTests := true, laidLooks := .later }
def FnExactValueAtUptoCardSaid : Prop := Claim7.holds Tryd.pinned (.plain (OpenSpec.upto fnExactValueAtSpec)) fnExactValueAtUptoCard
end Rows
end Go.Proofs.YtiipannebebbeaaDoor
