/-
  NARROWER THAN 'FOR EVERY INPUT', by the rows' own cells (each row's printed sentence says how): FnSureCurveParts: ifaces, laid · FnParValue: ifaces, laid · FnSureCurve: ifaces, laid · FnValueAt: ifaces, laid · FnValueAtYears: ifaces, laid · FnForwardOf: ifaces, laid.
  DERIVED. THE GIVEN ROWS OF THIS SEAT. 6 by the template 'for every input the law returns true; each argument reads behind the call as it read before'; 0 by the template 'total and deterministic' (their statements: YtpijjacnbpnlfaaDoorTotals.lean).
  GIVEN WITH THE SEED: the statements are not yours to turn. If you find one false, say at which input.
  Laid BY PROGRAM, IN A SANDBOX (cutbox-rows.mjs): the forced cells as the released guide's own fill.sh prints them over the translation 99bb8a7b413b9af1… (all of the seat's roots in one cut). By AI agents, Wed Nov 11 2026. No macro, syntax, notation, axiom, sorry.
-/
import Derived.Test.YtpijjacnbpnlfaaDoorChecked
import GoSem.Claim
import GoSem.ClaimJoined
import GoSem.ClaimMapViews
import Derived.JoinedTies
import Derived.KernelRfl
namespace Go.Proofs.YtpijjacnbpnlfaaDoor
/- THE CELL 'sum', in the pinned program and in every row, IS THE sha256 OF THE DUMP (.gsa) THAT YtpijjacnbpnlfaaDoorProg.lean LOADS. Nothing in Lean hashes anything: it is a label: what it is worth is what the hold of that sum in a sandbox is worth. -/
noncomputable def Tryd.pinned : Pinned := { name := "ytpijjacnbpnlfaadoor", sum := "99bb8a7b413b9af10b7b1229f4f47924aab60602aa96862fd3d5ce42ddb455e5", checked := Tryd.checked }
namespace Rows
def none {H : Type} : Left H := { results := [], args := [] }

/- WHAT THE LISTED PACKAGE-LEVEL VARIABLES READ AS WHEN THE CALL BEGINS. Each datum BY PROGRAM (the guide's laid-datum.mjs) off the statement by which the dump's own 'gosem.cut.vars' lays the variable. In a bare row this is a premise. The card (YtpijjacnbpnlfaaDoorCards.lean) ties it to the program's text. -/
def laid_loop_example_bonddesk_impl_errRange {H : Type} : DataW H := .iface "*errors.errorString" (.ptr (.agg [.lit (.string [110, 111, 32, 114, 97, 110, 103, 101])]))

/-- 'laws.FnSureCurveParts': WHATEVER THE INPUT: true; the input reads as it did. -/
def fnSureCurvePartsSpec : ChangeSpec := { name := "fnSureCurveParts", vars := ["loop.example/bonddesk/impl.errRange"], fn := fun _ => fun
  | [d, g1] => { results := [.lit (.bool true)], args := [d], vars := [g1] }
  | _ => none }
def fnSureCurvePartsRow : OpenClaim := { program := "ytpijjacnbpnlfaadoor", sum := "99bb8a7b413b9af10b7b1229f4f47924aab60602aa96862fd3d5ce42ddb455e5", func := "loop.example/bonddesk/laws.FnSureCurveParts", spec := "fnSureCurveParts", named := ["loop.example/bonddesk/impl.errRange"], ifaces := true, apart := false, laid := [("loop.example/bonddesk/impl.errRange", laid_loop_example_bonddesk_impl_errRange)] }
def FnSureCurvePartsSaid : Prop := fnSureCurvePartsRow.holds Tryd.pinned (OpenSpec.ofChange fnSureCurvePartsSpec)

/-- ITS FALSE NEIGHBOUR: 'it returns false'. Refute it at one input. -/
def fnSureCurvePartsWrong : ChangeSpec := { name := "fnSureCurveParts", vars := ["loop.example/bonddesk/impl.errRange"], fn := fun _ => fun
  | [d, g1] => { results := [.lit (.bool false)], args := [d], vars := [g1] }
  | _ => none }
def FnSureCurvePartsWrongFalsely : Prop := fnSureCurvePartsRow.holds Tryd.pinned (OpenSpec.ofChange fnSureCurvePartsWrong)

/-- 'laws.FnParValue': WHATEVER THE INPUT: true; the input reads as it did. -/
def fnParValueSpec : ChangeSpec := { name := "fnParValue", vars := ["loop.example/bonddesk/impl.errRange"], fn := fun _ => fun
  | [d, g1] => { results := [.lit (.bool true)], args := [d], vars := [g1] }
  | _ => none }
def fnParValueRow : OpenClaim := { program := "ytpijjacnbpnlfaadoor", sum := "99bb8a7b413b9af10b7b1229f4f47924aab60602aa96862fd3d5ce42ddb455e5", func := "loop.example/bonddesk/laws.FnParValue", spec := "fnParValue", named := ["loop.example/bonddesk/impl.errRange"], ifaces := true, apart := false, laid := [("loop.example/bonddesk/impl.errRange", laid_loop_example_bonddesk_impl_errRange)] }
def FnParValueSaid : Prop := fnParValueRow.holds Tryd.pinned (OpenSpec.ofChange fnParValueSpec)

/-- ITS FALSE NEIGHBOUR: 'it returns false'. Refute it at one input. -/
def fnParValueWrong : ChangeSpec := { name := "fnParValue", vars := ["loop.example/bonddesk/impl.errRange"], fn := fun _ => fun
  | [d, g1] => { results := [.lit (.bool false)], args := [d], vars := [g1] }
  | _ => none }
def FnParValueWrongFalsely : Prop := fnParValueRow.holds Tryd.pinned (OpenSpec.ofChange fnParValueWrong)

/-- 'laws.FnSureCurve': WHATEVER THE INPUT: true; the input reads as it did. -/
def fnSureCurveSpec : ChangeSpec := { name := "fnSureCurve", vars := ["loop.example/bonddesk/impl.errRange"], fn := fun _ => fun
  | [d, g1] => { results := [.lit (.bool true)], args := [d], vars := [g1] }
  | _ => none }
def fnSureCurveRow : OpenClaim := { program := "ytpijjacnbpnlfaadoor", sum := "99bb8a7b413b9af10b7b1229f4f47924aab60602aa96862fd3d5ce42ddb455e5", func := "loop.example/bonddesk/laws.FnSureCurve", spec := "fnSureCurve", named := ["loop.example/bonddesk/impl.errRange"], ifaces := true, apart := false, laid := [("loop.example/bonddesk/impl.errRange", laid_loop_example_bonddesk_impl_errRange)] }
def FnSureCurveSaid : Prop := fnSureCurveRow.holds Tryd.pinned (OpenSpec.ofChange fnSureCurveSpec)

/-- ITS FALSE NEIGHBOUR: 'it returns false'. Refute it at one input. -/
def fnSureCurveWrong : ChangeSpec := { name := "fnSureCurve", vars := ["loop.example/bonddesk/impl.errRange"], fn := fun _ => fun
  | [d, g1] => { results := [.lit (.bool false)], args := [d], vars := [g1] }
  | _ => none }
def FnSureCurveWrongFalsely : Prop := fnSureCurveRow.holds Tryd.pinned (OpenSpec.ofChange fnSureCurveWrong)

/-- 'laws.FnValueAt': WHATEVER THE INPUT: true; the input reads as it did. -/
def fnValueAtSpec : ChangeSpec := { name := "fnValueAt", vars := ["loop.example/bonddesk/impl.errRange"], fn := fun _ => fun
  | [d, g1] => { results := [.lit (.bool true)], args := [d], vars := [g1] }
  | _ => none }
def fnValueAtRow : OpenClaim := { program := "ytpijjacnbpnlfaadoor", sum := "99bb8a7b413b9af10b7b1229f4f47924aab60602aa96862fd3d5ce42ddb455e5", func := "loop.example/bonddesk/laws.FnValueAt", spec := "fnValueAt", named := ["loop.example/bonddesk/impl.errRange"], ifaces := true, apart := false, laid := [("loop.example/bonddesk/impl.errRange", laid_loop_example_bonddesk_impl_errRange)] }
def FnValueAtSaid : Prop := fnValueAtRow.holds Tryd.pinned (OpenSpec.ofChange fnValueAtSpec)

/-- ITS FALSE NEIGHBOUR: 'it returns false'. Refute it at one input. -/
def fnValueAtWrong : ChangeSpec := { name := "fnValueAt", vars := ["loop.example/bonddesk/impl.errRange"], fn := fun _ => fun
  | [d, g1] => { results := [.lit (.bool false)], args := [d], vars := [g1] }
  | _ => none }
def FnValueAtWrongFalsely : Prop := fnValueAtRow.holds Tryd.pinned (OpenSpec.ofChange fnValueAtWrong)

/-- 'laws.FnValueAtYears': WHATEVER THE INPUT: true; the input reads as it did. -/
def fnValueAtYearsSpec : ChangeSpec := { name := "fnValueAtYears", vars := ["loop.example/bonddesk/impl.errRange"], fn := fun _ => fun
  | [d, g1] => { results := [.lit (.bool true)], args := [d], vars := [g1] }
  | _ => none }
def fnValueAtYearsRow : OpenClaim := { program := "ytpijjacnbpnlfaadoor", sum := "99bb8a7b413b9af10b7b1229f4f47924aab60602aa96862fd3d5ce42ddb455e5", func := "loop.example/bonddesk/laws.FnValueAtYears", spec := "fnValueAtYears", named := ["loop.example/bonddesk/impl.errRange"], ifaces := true, apart := false, laid := [("loop.example/bonddesk/impl.errRange", laid_loop_example_bonddesk_impl_errRange)] }
def FnValueAtYearsSaid : Prop := fnValueAtYearsRow.holds Tryd.pinned (OpenSpec.ofChange fnValueAtYearsSpec)

/-- ITS FALSE NEIGHBOUR: 'it returns false'. Refute it at one input. -/
def fnValueAtYearsWrong : ChangeSpec := { name := "fnValueAtYears", vars := ["loop.example/bonddesk/impl.errRange"], fn := fun _ => fun
  | [d, g1] => { results := [.lit (.bool false)], args := [d], vars := [g1] }
  | _ => none }
def FnValueAtYearsWrongFalsely : Prop := fnValueAtYearsRow.holds Tryd.pinned (OpenSpec.ofChange fnValueAtYearsWrong)

/-- 'laws.FnForwardOf': WHATEVER THE INPUT: true; the input reads as it did. -/
def fnForwardOfSpec : ChangeSpec := { name := "fnForwardOf", vars := ["loop.example/bonddesk/impl.errRange"], fn := fun _ => fun
  | [d, g1] => { results := [.lit (.bool true)], args := [d], vars := [g1] }
  | _ => none }
def fnForwardOfRow : OpenClaim := { program := "ytpijjacnbpnlfaadoor", sum := "99bb8a7b413b9af10b7b1229f4f47924aab60602aa96862fd3d5ce42ddb455e5", func := "loop.example/bonddesk/laws.FnForwardOf", spec := "fnForwardOf", inPlace := ["internal/reflectlite.TypeOf"], unfollowed := true, recurses := true, named := ["loop.example/bonddesk/impl.errRange"], ifaces := true, apart := false, laid := [("loop.example/bonddesk/impl.errRange", laid_loop_example_bonddesk_impl_errRange)] }
def FnForwardOfSaid : Prop := fnForwardOfRow.holds Tryd.pinned (OpenSpec.ofChange fnForwardOfSpec)

/-- ITS FALSE NEIGHBOUR: 'it returns false'. Refute it at one input. -/
def fnForwardOfWrong : ChangeSpec := { name := "fnForwardOf", vars := ["loop.example/bonddesk/impl.errRange"], fn := fun _ => fun
  | [d, g1] => { results := [.lit (.bool false)], args := [d], vars := [g1] }
  | _ => none }
def FnForwardOfWrongFalsely : Prop := fnForwardOfRow.holds Tryd.pinned (OpenSpec.ofChange fnForwardOfWrong)

/- THE SECOND FORM. 'bulk': how many values and letters a reading holds, each counted each time it is reached (what is shared counts as often as it is met; a slice's spare places count too). A statement '..UptoSaid' is the law's where the arguments, and the package variables that the reading takes, are together of bulk at most 1048576: NARROWER than '..Said'. Prove '..Said' where nothing that the law and all that it calls make is longer than what came in: it says more and counts as full. Else prove '..UptoSaid'. A law counts once. -/
mutual
def uptoBulk {H : Type} : DataW H → Nat
  | .lit (.string bytes) => bytes.length + 1
  | .lit _ => 1
  | .nil => 1
  | .ptr d => uptoBulk d + 1
  | .slice elems spare => uptoBulkAll elems + uptoBulkAll spare + 1
  | .agg parts => uptoBulkAll parts + 1
  | .iface _ d => uptoBulk d + 1
  | .map entries => uptoBulkEntries entries + 1
  | .held _ => 1
def uptoBulkAll {H : Type} : List (DataW H) → Nat
  | [] => 0
  | d :: r => uptoBulk d + uptoBulkAll r
def uptoBulkEntries {H : Type} : List (Lit × DataW H) → Nat
  | [] => 0
  | x :: r => uptoBulkEntry x + uptoBulkEntries r
def uptoBulkEntry {H : Type} : Lit × DataW H → Nat
  | (.string bytes, d) => bytes.length + uptoBulk d + 1
  | (_, d) => uptoBulk d + 1
 end
def uptoSmall : (H : Type) → List (DataW H) → Bool := fun _ ds => decide (uptoBulkAll ds ≤ 1048576)
def OpenSpec.upto (s : _root_.Go.ChangeSpec) : _root_.Go.OpenSpec := { _root_.Go.OpenSpec.ofChange s with cond := some uptoSmall }

/-- 'laws.FnSureCurveParts', WHERE WHAT IT READS IS OF BULK AT MOST 1048576: true; the input reads as it did. -/
def fnSureCurvePartsUptoRow : OpenClaim := { program := "ytpijjacnbpnlfaadoor", sum := "99bb8a7b413b9af10b7b1229f4f47924aab60602aa96862fd3d5ce42ddb455e5", func := "loop.example/bonddesk/laws.FnSureCurveParts", spec := "fnSureCurveParts", named := ["loop.example/bonddesk/impl.errRange"], ifaces := true, apart := false, laid := [("loop.example/bonddesk/impl.errRange", laid_loop_example_bonddesk_impl_errRange)], narrowed := true }
def FnSureCurvePartsUptoSaid : Prop := fnSureCurvePartsUptoRow.holds Tryd.pinned (OpenSpec.upto fnSureCurvePartsSpec)

/-- 'laws.FnParValue', WHERE WHAT IT READS IS OF BULK AT MOST 1048576: true; the input reads as it did. -/
def fnParValueUptoRow : OpenClaim := { program := "ytpijjacnbpnlfaadoor", sum := "99bb8a7b413b9af10b7b1229f4f47924aab60602aa96862fd3d5ce42ddb455e5", func := "loop.example/bonddesk/laws.FnParValue", spec := "fnParValue", named := ["loop.example/bonddesk/impl.errRange"], ifaces := true, apart := false, laid := [("loop.example/bonddesk/impl.errRange", laid_loop_example_bonddesk_impl_errRange)], narrowed := true }
def FnParValueUptoSaid : Prop := fnParValueUptoRow.holds Tryd.pinned (OpenSpec.upto fnParValueSpec)

/-- 'laws.FnSureCurve', WHERE WHAT IT READS IS OF BULK AT MOST 1048576: true; the input reads as it did. -/
def fnSureCurveUptoRow : OpenClaim := { program := "ytpijjacnbpnlfaadoor", sum := "99bb8a7b413b9af10b7b1229f4f47924aab60602aa96862fd3d5ce42ddb455e5", func := "loop.example/bonddesk/laws.FnSureCurve", spec := "fnSureCurve", named := ["loop.example/bonddesk/impl.errRange"], ifaces := true, apart := false, laid := [("loop.example/bonddesk/impl.errRange", laid_loop_example_bonddesk_impl_errRange)], narrowed := true }
def FnSureCurveUptoSaid : Prop := fnSureCurveUptoRow.holds Tryd.pinned (OpenSpec.upto fnSureCurveSpec)

/-- 'laws.FnValueAt', WHERE WHAT IT READS IS OF BULK AT MOST 1048576: true; the input reads as it did. -/
def fnValueAtUptoRow : OpenClaim := { program := "ytpijjacnbpnlfaadoor", sum := "99bb8a7b413b9af10b7b1229f4f47924aab60602aa96862fd3d5ce42ddb455e5", func := "loop.example/bonddesk/laws.FnValueAt", spec := "fnValueAt", named := ["loop.example/bonddesk/impl.errRange"], ifaces := true, apart := false, laid := [("loop.example/bonddesk/impl.errRange", laid_loop_example_bonddesk_impl_errRange)], narrowed := true }
def FnValueAtUptoSaid : Prop := fnValueAtUptoRow.holds Tryd.pinned (OpenSpec.upto fnValueAtSpec)

/-- 'laws.FnValueAtYears', WHERE WHAT IT READS IS OF BULK AT MOST 1048576: true; the input reads as it did. -/
def fnValueAtYearsUptoRow : OpenClaim := { program := "ytpijjacnbpnlfaadoor", sum := "99bb8a7b413b9af10b7b1229f4f47924aab60602aa96862fd3d5ce42ddb455e5", func := "loop.example/bonddesk/laws.FnValueAtYears", spec := "fnValueAtYears", named := ["loop.example/bonddesk/impl.errRange"], ifaces := true, apart := false, laid := [("loop.example/bonddesk/impl.errRange", laid_loop_example_bonddesk_impl_errRange)], narrowed := true }
def FnValueAtYearsUptoSaid : Prop := fnValueAtYearsUptoRow.holds Tryd.pinned (OpenSpec.upto fnValueAtYearsSpec)

/-- 'laws.FnForwardOf', WHERE WHAT IT READS IS OF BULK AT MOST 1048576: true; the input reads as it did. -/
def fnForwardOfUptoRow : OpenClaim := { program := "ytpijjacnbpnlfaadoor", sum := "99bb8a7b413b9af10b7b1229f4f47924aab60602aa96862fd3d5ce42ddb455e5", func := "loop.example/bonddesk/laws.FnForwardOf", spec := "fnForwardOf", inPlace := ["internal/reflectlite.TypeOf"], unfollowed := true, recurses := true, named := ["loop.example/bonddesk/impl.errRange"], ifaces := true, apart := false, laid := [("loop.example/bonddesk/impl.errRange", laid_loop_example_bonddesk_impl_errRange)], narrowed := true }
def FnForwardOfUptoSaid : Prop := fnForwardOfUptoRow.holds Tryd.pinned (OpenSpec.upto fnForwardOfSpec)

end Rows
end Go.Proofs.YtpijjacnbpnlfaaDoor
