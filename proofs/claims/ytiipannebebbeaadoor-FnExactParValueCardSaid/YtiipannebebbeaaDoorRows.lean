/-
  NARROWER THAN 'FOR EVERY INPUT', by the rows' own cells (each row's printed sentence says how): FnExactSureCurve: ifaces, laid · FnExactParValue: ifaces, laid · FnExactForwardOf: ifaces, laid · FnExactValueAt: ifaces, laid.
  DERIVED. THE GIVEN ROWS OF THIS SEAT. 4 by the template 'for every input the law returns true; each argument reads behind the call as it read before'; 0 by the template 'total and deterministic' (their statements: YtiipannebebbeaaDoorTotals.lean).
  GIVEN WITH THE SEED: the statements are not yours to turn. If you find one false, say at which input.
  Laid BY PROGRAM, IN A SANDBOX (cutbox-rows.mjs): the forced cells as the released guide's own fill.sh prints them over the translation f3c413487752812f… (all of the seat's roots in one cut). By AI agents, Wed Nov 11 2026. No macro, syntax, notation, axiom, sorry.
-/
import Derived.Test.YtiipannebebbeaaDoorChecked
import GoSem.Claim
import GoSem.ClaimJoined
import GoSem.ClaimMapViews
import Derived.JoinedTies
import Derived.KernelRfl
namespace Go.Proofs.YtiipannebebbeaaDoor
/- THE CELL 'sum', in the pinned program and in every row, IS THE sha256 OF THE DUMP (.gsa) THAT YtiipannebebbeaaDoorProg.lean LOADS. Nothing in Lean hashes anything: it is a label: what it is worth is what the hold of that sum in a sandbox is worth. -/
noncomputable def Tryd.pinned : Pinned := { name := "ytiipannebebbeaadoor", sum := "f3c413487752812f158bddfa4e8ff132a2170d62586c1ce4f7a5fc52abb834ec", checked := Tryd.checked }
namespace Rows
def none {H : Type} : Left H := { results := [], args := [] }

/- WHAT THE LISTED PACKAGE-LEVEL VARIABLES READ AS WHEN THE CALL BEGINS. Each datum BY PROGRAM (the guide's laid-datum.mjs) off the statement by which the dump's own 'gosem.cut.vars' lays the variable. In a bare row this is a premise. The card (YtiipannebebbeaaDoorCards.lean) ties it to the program's text. -/
def laid_loop_example_bonddesk_impl_errRange {H : Type} : DataW H := .iface "*errors.errorString" (.ptr (.agg [.lit (.string [110, 111, 32, 114, 97, 110, 103, 101])]))

/-- 'laws.FnExactSureCurve': WHATEVER THE INPUT: true; the input reads as it did. -/
def fnExactSureCurveSpec : ChangeSpec := { name := "fnExactSureCurve", vars := ["loop.example/bonddesk/impl.errRange"], fn := fun _ => fun
  | [d, g1] => { results := [.lit (.bool true)], args := [d], vars := [g1] }
  | _ => none }
def fnExactSureCurveRow : OpenClaim := { program := "ytiipannebebbeaadoor", sum := "f3c413487752812f158bddfa4e8ff132a2170d62586c1ce4f7a5fc52abb834ec", func := "loop.example/bonddesk/laws.FnExactSureCurve", spec := "fnExactSureCurve", named := ["loop.example/bonddesk/impl.errRange"], ifaces := true, apart := false, laid := [("loop.example/bonddesk/impl.errRange", laid_loop_example_bonddesk_impl_errRange)] }
def FnExactSureCurveSaid : Prop := fnExactSureCurveRow.holds Tryd.pinned (OpenSpec.ofChange fnExactSureCurveSpec)

/-- ITS FALSE NEIGHBOUR: 'it returns false'. Refute it at one input. -/
def fnExactSureCurveWrong : ChangeSpec := { name := "fnExactSureCurve", vars := ["loop.example/bonddesk/impl.errRange"], fn := fun _ => fun
  | [d, g1] => { results := [.lit (.bool false)], args := [d], vars := [g1] }
  | _ => none }
def FnExactSureCurveWrongFalsely : Prop := fnExactSureCurveRow.holds Tryd.pinned (OpenSpec.ofChange fnExactSureCurveWrong)

/-- 'laws.FnExactParValue': WHATEVER THE INPUT: true; the input reads as it did. -/
def fnExactParValueSpec : ChangeSpec := { name := "fnExactParValue", vars := ["loop.example/bonddesk/impl.errRange"], fn := fun _ => fun
  | [d1, d2, d3, g1] => { results := [.lit (.bool true)], args := [d1, d2, d3], vars := [g1] }
  | _ => none }
def fnExactParValueRow : OpenClaim := { program := "ytiipannebebbeaadoor", sum := "f3c413487752812f158bddfa4e8ff132a2170d62586c1ce4f7a5fc52abb834ec", func := "loop.example/bonddesk/laws.FnExactParValue", spec := "fnExactParValue", named := ["loop.example/bonddesk/impl.errRange"], ifaces := true, apart := false, laid := [("loop.example/bonddesk/impl.errRange", laid_loop_example_bonddesk_impl_errRange)] }
def FnExactParValueSaid : Prop := fnExactParValueRow.holds Tryd.pinned (OpenSpec.ofChange fnExactParValueSpec)

/-- ITS FALSE NEIGHBOUR: 'it returns false'. Refute it at one input. -/
def fnExactParValueWrong : ChangeSpec := { name := "fnExactParValue", vars := ["loop.example/bonddesk/impl.errRange"], fn := fun _ => fun
  | [d1, d2, d3, g1] => { results := [.lit (.bool false)], args := [d1, d2, d3], vars := [g1] }
  | _ => none }
def FnExactParValueWrongFalsely : Prop := fnExactParValueRow.holds Tryd.pinned (OpenSpec.ofChange fnExactParValueWrong)

/-- 'laws.FnExactForwardOf': WHATEVER THE INPUT: true; the input reads as it did. -/
def fnExactForwardOfSpec : ChangeSpec := { name := "fnExactForwardOf", vars := ["loop.example/bonddesk/impl.errRange"], fn := fun _ => fun
  | [d1, d2, g1] => { results := [.lit (.bool true)], args := [d1, d2], vars := [g1] }
  | _ => none }
def fnExactForwardOfRow : OpenClaim := { program := "ytiipannebebbeaadoor", sum := "f3c413487752812f158bddfa4e8ff132a2170d62586c1ce4f7a5fc52abb834ec", func := "loop.example/bonddesk/laws.FnExactForwardOf", spec := "fnExactForwardOf", named := ["loop.example/bonddesk/impl.errRange"], ifaces := true, apart := false, laid := [("loop.example/bonddesk/impl.errRange", laid_loop_example_bonddesk_impl_errRange)] }
def FnExactForwardOfSaid : Prop := fnExactForwardOfRow.holds Tryd.pinned (OpenSpec.ofChange fnExactForwardOfSpec)

/-- ITS FALSE NEIGHBOUR: 'it returns false'. Refute it at one input. -/
def fnExactForwardOfWrong : ChangeSpec := { name := "fnExactForwardOf", vars := ["loop.example/bonddesk/impl.errRange"], fn := fun _ => fun
  | [d1, d2, g1] => { results := [.lit (.bool false)], args := [d1, d2], vars := [g1] }
  | _ => none }
def FnExactForwardOfWrongFalsely : Prop := fnExactForwardOfRow.holds Tryd.pinned (OpenSpec.ofChange fnExactForwardOfWrong)

/-- 'laws.FnExactValueAt': WHATEVER THE INPUT: true; the input reads as it did. -/
def fnExactValueAtSpec : ChangeSpec := { name := "fnExactValueAt", vars := ["loop.example/bonddesk/impl.errRange"], fn := fun _ => fun
  | [d1, d2, g1] => { results := [.lit (.bool true)], args := [d1, d2], vars := [g1] }
  | _ => none }
def fnExactValueAtRow : OpenClaim := { program := "ytiipannebebbeaadoor", sum := "f3c413487752812f158bddfa4e8ff132a2170d62586c1ce4f7a5fc52abb834ec", func := "loop.example/bonddesk/laws.FnExactValueAt", spec := "fnExactValueAt", named := ["loop.example/bonddesk/impl.errRange"], ifaces := true, apart := false, laid := [("loop.example/bonddesk/impl.errRange", laid_loop_example_bonddesk_impl_errRange)] }
def FnExactValueAtSaid : Prop := fnExactValueAtRow.holds Tryd.pinned (OpenSpec.ofChange fnExactValueAtSpec)

/-- ITS FALSE NEIGHBOUR: 'it returns false'. Refute it at one input. -/
def fnExactValueAtWrong : ChangeSpec := { name := "fnExactValueAt", vars := ["loop.example/bonddesk/impl.errRange"], fn := fun _ => fun
  | [d1, d2, g1] => { results := [.lit (.bool false)], args := [d1, d2], vars := [g1] }
  | _ => none }
def FnExactValueAtWrongFalsely : Prop := fnExactValueAtRow.holds Tryd.pinned (OpenSpec.ofChange fnExactValueAtWrong)

/- THE SECOND FORM. 'bulk': how many values and letters a reading holds, each counted each time it is reached (what is shared counts as often as it is met; a slice's spare places count too). A statement '..UptoSaid' is the law's where the arguments, and the package variables that the reading takes, are together of bulk at most 1048576: NARROWER than '..Said'. Prove '..Said' where nothing that the law and all that it calls make is longer than what came in: it says more and counts as full. Else prove '..UptoSaid'. A law counts once. -/
mutual
def uptoBulk {H : Type} : DataW H → Nat
  | .lit (.string bytes) => bytes.length + 1
  | .lit _ => 1
  | .nil => 1
  | .ptr d => uptoBulk d + 1
  | .slice elems spare => uptoBulkAll elems + uptoBulkAll spare + 1
  | .agg parts => uptoBulkAll parts + 1
  | .iface _ d => uptoBulk d + 1
  | .map entries => uptoBulkEntries entries + 1
  | .held _ => 1
def uptoBulkAll {H : Type} : List (DataW H) → Nat
  | [] => 0
  | d :: r => uptoBulk d + uptoBulkAll r
def uptoBulkEntries {H : Type} : List (Lit × DataW H) → Nat
  | [] => 0
  | x :: r => uptoBulkEntry x + uptoBulkEntries r
def uptoBulkEntry {H : Type} : Lit × DataW H → Nat
  | (.string bytes, d) => bytes.length + uptoBulk d + 1
  | (_, d) => uptoBulk d + 1
 end
def uptoSmall : (H : Type) → List (DataW H) → Bool := fun _ ds => decide (uptoBulkAll ds ≤ 1048576)
def OpenSpec.upto (s : _root_.Go.ChangeSpec) : _root_.Go.OpenSpec := { _root_.Go.OpenSpec.ofChange s with cond := some uptoSmall }

/-- 'laws.FnExactSureCurve', WHERE WHAT IT READS IS OF BULK AT MOST 1048576: true; the input reads as it did. -/
def fnExactSureCurveUptoRow : OpenClaim := { program := "ytiipannebebbeaadoor", sum := "f3c413487752812f158bddfa4e8ff132a2170d62586c1ce4f7a5fc52abb834ec", func := "loop.example/bonddesk/laws.FnExactSureCurve", spec := "fnExactSureCurve", named := ["loop.example/bonddesk/impl.errRange"], ifaces := true, apart := false, laid := [("loop.example/bonddesk/impl.errRange", laid_loop_example_bonddesk_impl_errRange)], narrowed := true }
def FnExactSureCurveUptoSaid : Prop := fnExactSureCurveUptoRow.holds Tryd.pinned (OpenSpec.upto fnExactSureCurveSpec)

/-- 'laws.FnExactParValue', WHERE WHAT IT READS IS OF BULK AT MOST 1048576: true; the input reads as it did. -/
def fnExactParValueUptoRow : OpenClaim := { program := "ytiipannebebbeaadoor", sum := "f3c413487752812f158bddfa4e8ff132a2170d62586c1ce4f7a5fc52abb834ec", func := "loop.example/bonddesk/laws.FnExactParValue", spec := "fnExactParValue", named := ["loop.example/bonddesk/impl.errRange"], ifaces := true, apart := false, laid := [("loop.example/bonddesk/impl.errRange", laid_loop_example_bonddesk_impl_errRange)], narrowed := true }
def FnExactParValueUptoSaid : Prop := fnExactParValueUptoRow.holds Tryd.pinned (OpenSpec.upto fnExactParValueSpec)

/-- 'laws.FnExactForwardOf', WHERE WHAT IT READS IS OF BULK AT MOST 1048576: true; the input reads as it did. -/
def fnExactForwardOfUptoRow : OpenClaim := { program := "ytiipannebebbeaadoor", sum := "f3c413487752812f158bddfa4e8ff132a2170d62586c1ce4f7a5fc52abb834ec", func := "loop.example/bonddesk/laws.FnExactForwardOf", spec := "fnExactForwardOf", named := ["loop.example/bonddesk/impl.errRange"], ifaces := true, apart := false, laid := [("loop.example/bonddesk/impl.errRange", laid_loop_example_bonddesk_impl_errRange)], narrowed := true }
def FnExactForwardOfUptoSaid : Prop := fnExactForwardOfUptoRow.holds Tryd.pinned (OpenSpec.upto fnExactForwardOfSpec)

/-- 'laws.FnExactValueAt', WHERE WHAT IT READS IS OF BULK AT MOST 1048576: true; the input reads as it did. -/
def fnExactValueAtUptoRow : OpenClaim := { program := "ytiipannebebbeaadoor", sum := "f3c413487752812f158bddfa4e8ff132a2170d62586c1ce4f7a5fc52abb834ec", func := "loop.example/bonddesk/laws.FnExactValueAt", spec := "fnExactValueAt", named := ["loop.example/bonddesk/impl.errRange"], ifaces := true, apart := false, laid := [("loop.example/bonddesk/impl.errRange", laid_loop_example_bonddesk_impl_errRange)], narrowed := true }
def FnExactValueAtUptoSaid : Prop := fnExactValueAtUptoRow.holds Tryd.pinned (OpenSpec.upto fnExactValueAtSpec)

end Rows
end Go.Proofs.YtiipannebebbeaaDoor
