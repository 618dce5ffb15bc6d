/-
  NARROWER THAN 'FOR EVERY INPUT', by the rows' own cells (each row's printed sentence says how): FnSwapRateCurve: ifaces, laid · FnSwapRate: ifaces, laid · FnExactSwapRate: ifaces, laid.
  DERIVED. THE GIVEN ROWS OF THIS SEAT. 3 by the template 'for every input the law returns true; each argument reads behind the call as it read before'; 0 by the template 'total and deterministic' (their statements: YtbofmoelmhbpoaaDoorTotals.lean).
  GIVEN WITH THE SEED: the statements are not yours to turn. If you find one false, say at which input.
  Laid BY PROGRAM, IN A SANDBOX (cutbox-rows.mjs): the forced cells as the released guide's own fill.sh prints them over the translation ce13828e63942363… (all of the seat's roots in one cut). By AI agents, Wed Nov 11 2026. No macro, syntax, notation, axiom, sorry.
-/
import Derived.Test.YtbofmoelmhbpoaaDoorChecked
import GoSem.Claim
import GoSem.ClaimJoined
import GoSem.ClaimMapViews
import Derived.JoinedTies
import Derived.KernelRfl
namespace Go.Proofs.YtbofmoelmhbpoaaDoor
/- THE CELL 'sum', in the pinned program and in every row, IS THE sha256 OF THE DUMP (.gsa) THAT YtbofmoelmhbpoaaDoorProg.lean LOADS. Nothing in Lean hashes anything: it is a label: what it is worth is what the hold of that sum in a sandbox is worth. -/
noncomputable def Tryd.pinned : Pinned := { name := "ytbofmoelmhbpoaadoor", sum := "ce13828e63942363acbb9b6df863e9e0c3dbabd520c62cadc7b70c889a666378", checked := Tryd.checked }
namespace Rows
def none {H : Type} : Left H := { results := [], args := [] }

/- WHAT THE LISTED PACKAGE-LEVEL VARIABLES READ AS WHEN THE CALL BEGINS. Each datum BY PROGRAM (the guide's laid-datum.mjs) off the statement by which the dump's own 'gosem.cut.vars' lays the variable. In a bare row this is a premise. The card (YtbofmoelmhbpoaaDoorCards.lean) ties it to the program's text. -/
def laid_loop_example_bonddesk_impl_errRange {H : Type} : DataW H := .iface "*errors.errorString" (.ptr (.agg [.lit (.string [110, 111, 32, 114, 97, 110, 103, 101])]))

/-- 'laws.FnSwapRateCurve': WHATEVER THE INPUT: true; the input reads as it did. -/
def fnSwapRateCurveSpec : ChangeSpec := { name := "fnSwapRateCurve", vars := ["loop.example/bonddesk/impl.errRange"], fn := fun _ => fun
  | [d, g1] => { results := [.lit (.bool true)], args := [d], vars := [g1] }
  | _ => none }
def fnSwapRateCurveRow : OpenClaim := { program := "ytbofmoelmhbpoaadoor", sum := "ce13828e63942363acbb9b6df863e9e0c3dbabd520c62cadc7b70c889a666378", func := "loop.example/bonddesk/laws.FnSwapRateCurve", spec := "fnSwapRateCurve", inPlace := ["internal/reflectlite.TypeOf"], unfollowed := true, recurses := true, named := ["loop.example/bonddesk/impl.errRange"], ifaces := true, apart := false, laid := [("loop.example/bonddesk/impl.errRange", laid_loop_example_bonddesk_impl_errRange)] }
def FnSwapRateCurveSaid : Prop := fnSwapRateCurveRow.holds Tryd.pinned (OpenSpec.ofChange fnSwapRateCurveSpec)

/-- ITS FALSE NEIGHBOUR: 'it returns false'. Refute it at one input. -/
def fnSwapRateCurveWrong : ChangeSpec := { name := "fnSwapRateCurve", vars := ["loop.example/bonddesk/impl.errRange"], fn := fun _ => fun
  | [d, g1] => { results := [.lit (.bool false)], args := [d], vars := [g1] }
  | _ => none }
def FnSwapRateCurveWrongFalsely : Prop := fnSwapRateCurveRow.holds Tryd.pinned (OpenSpec.ofChange fnSwapRateCurveWrong)

/-- 'laws.FnSwapRate': WHATEVER THE INPUT: true; the input reads as it did. -/
def fnSwapRateSpec : ChangeSpec := { name := "fnSwapRate", vars := ["loop.example/bonddesk/impl.errRange"], fn := fun _ => fun
  | [d, g1] => { results := [.lit (.bool true)], args := [d], vars := [g1] }
  | _ => none }
def fnSwapRateRow : OpenClaim := { program := "ytbofmoelmhbpoaadoor", sum := "ce13828e63942363acbb9b6df863e9e0c3dbabd520c62cadc7b70c889a666378", func := "loop.example/bonddesk/laws.FnSwapRate", spec := "fnSwapRate", inPlace := ["internal/reflectlite.TypeOf"], unfollowed := true, recurses := true, named := ["loop.example/bonddesk/impl.errRange"], ifaces := true, apart := false, laid := [("loop.example/bonddesk/impl.errRange", laid_loop_example_bonddesk_impl_errRange)] }
def FnSwapRateSaid : Prop := fnSwapRateRow.holds Tryd.pinned (OpenSpec.ofChange fnSwapRateSpec)

/-- ITS FALSE NEIGHBOUR: 'it returns false'. Refute it at one input. -/
def fnSwapRateWrong : ChangeSpec := { name := "fnSwapRate", vars := ["loop.example/bonddesk/impl.errRange"], fn := fun _ => fun
  | [d, g1] => { results := [.lit (.bool false)], args := [d], vars := [g1] }
  | _ => none }
def FnSwapRateWrongFalsely : Prop := fnSwapRateRow.holds Tryd.pinned (OpenSpec.ofChange fnSwapRateWrong)

/-- 'laws.FnExactSwapRate': WHATEVER THE INPUT: true; the input reads as it did. -/
def fnExactSwapRateSpec : ChangeSpec := { name := "fnExactSwapRate", vars := ["loop.example/bonddesk/impl.errRange"], fn := fun _ => fun
  | [d1, d2, g1] => { results := [.lit (.bool true)], args := [d1, d2], vars := [g1] }
  | _ => none }
def fnExactSwapRateRow : OpenClaim := { program := "ytbofmoelmhbpoaadoor", sum := "ce13828e63942363acbb9b6df863e9e0c3dbabd520c62cadc7b70c889a666378", func := "loop.example/bonddesk/laws.FnExactSwapRate", spec := "fnExactSwapRate", inPlace := ["internal/reflectlite.TypeOf"], unfollowed := true, recurses := true, named := ["loop.example/bonddesk/impl.errRange"], ifaces := true, apart := false, laid := [("loop.example/bonddesk/impl.errRange", laid_loop_example_bonddesk_impl_errRange)] }
def FnExactSwapRateSaid : Prop := fnExactSwapRateRow.holds Tryd.pinned (OpenSpec.ofChange fnExactSwapRateSpec)

/-- ITS FALSE NEIGHBOUR: 'it returns false'. Refute it at one input. -/
def fnExactSwapRateWrong : ChangeSpec := { name := "fnExactSwapRate", vars := ["loop.example/bonddesk/impl.errRange"], fn := fun _ => fun
  | [d1, d2, g1] => { results := [.lit (.bool false)], args := [d1, d2], vars := [g1] }
  | _ => none }
def FnExactSwapRateWrongFalsely : Prop := fnExactSwapRateRow.holds Tryd.pinned (OpenSpec.ofChange fnExactSwapRateWrong)

/- THE SECOND FORM. 'bulk': how many values and letters a reading holds, each counted each time it is reached (what is shared counts as often as it is met; a slice's spare places count too). A statement '..UptoSaid' is the law's where the arguments, and the package variables that the reading takes, are together of bulk at most 1048576: NARROWER than '..Said'. Prove '..Said' where nothing that the law and all that it calls make is longer than what came in: it says more and counts as full. Else prove '..UptoSaid'. A law counts once. -/
mutual
def uptoBulk {H : Type} : DataW H → Nat
  | .lit (.string bytes) => bytes.length + 1
  | .lit _ => 1
  | .nil => 1
  | .ptr d => uptoBulk d + 1
  | .slice elems spare => uptoBulkAll elems + uptoBulkAll spare + 1
  | .agg parts => uptoBulkAll parts + 1
  | .iface _ d => uptoBulk d + 1
  | .map entries => uptoBulkEntries entries + 1
  | .held _ => 1
def uptoBulkAll {H : Type} : List (DataW H) → Nat
  | [] => 0
  | d :: r => uptoBulk d + uptoBulkAll r
def uptoBulkEntries {H : Type} : List (Lit × DataW H) → Nat
  | [] => 0
  | x :: r => uptoBulkEntry x + uptoBulkEntries r
def uptoBulkEntry {H : Type} : Lit × DataW H → Nat
  | (.string bytes, d) => bytes.length + uptoBulk d + 1
  | (_, d) => uptoBulk d + 1
 end
def uptoSmall : (H : Type) → List (DataW H) → Bool := fun _ ds => decide (uptoBulkAll ds ≤ 1048576)
def OpenSpec.upto (s : _root_.Go.ChangeSpec) : _root_.Go.OpenSpec := { _root_.Go.OpenSpec.ofChange s with cond := some uptoSmall }

/-- 'laws.FnSwapRateCurve', WHERE WHAT IT READS IS OF BULK AT MOST 1048576: true; the input reads as it did. -/
def fnSwapRateCurveUptoRow : OpenClaim := { program := "ytbofmoelmhbpoaadoor", sum := "ce13828e63942363acbb9b6df863e9e0c3dbabd520c62cadc7b70c889a666378", func := "loop.example/bonddesk/laws.FnSwapRateCurve", spec := "fnSwapRateCurve", inPlace := ["internal/reflectlite.TypeOf"], unfollowed := true, recurses := true, named := ["loop.example/bonddesk/impl.errRange"], ifaces := true, apart := false, laid := [("loop.example/bonddesk/impl.errRange", laid_loop_example_bonddesk_impl_errRange)], narrowed := true }
def FnSwapRateCurveUptoSaid : Prop := fnSwapRateCurveUptoRow.holds Tryd.pinned (OpenSpec.upto fnSwapRateCurveSpec)

/-- 'laws.FnSwapRate', WHERE WHAT IT READS IS OF BULK AT MOST 1048576: true; the input reads as it did. -/
def fnSwapRateUptoRow : OpenClaim := { program := "ytbofmoelmhbpoaadoor", sum := "ce13828e63942363acbb9b6df863e9e0c3dbabd520c62cadc7b70c889a666378", func := "loop.example/bonddesk/laws.FnSwapRate", spec := "fnSwapRate", inPlace := ["internal/reflectlite.TypeOf"], unfollowed := true, recurses := true, named := ["loop.example/bonddesk/impl.errRange"], ifaces := true, apart := false, laid := [("loop.example/bonddesk/impl.errRange", laid_loop_example_bonddesk_impl_errRange)], narrowed := true }
def FnSwapRateUptoSaid : Prop := fnSwapRateUptoRow.holds Tryd.pinned (OpenSpec.upto fnSwapRateSpec)

/-- 'laws.FnExactSwapRate', WHERE WHAT IT READS IS OF BULK AT MOST 1048576: true; the input reads as it did. -/
def fnExactSwapRateUptoRow : OpenClaim := { program := "ytbofmoelmhbpoaadoor", sum := "ce13828e63942363acbb9b6df863e9e0c3dbabd520c62cadc7b70c889a666378", func := "loop.example/bonddesk/laws.FnExactSwapRate", spec := "fnExactSwapRate", inPlace := ["internal/reflectlite.TypeOf"], unfollowed := true, recurses := true, named := ["loop.example/bonddesk/impl.errRange"], ifaces := true, apart := false, laid := [("loop.example/bonddesk/impl.errRange", laid_loop_example_bonddesk_impl_errRange)], narrowed := true }
def FnExactSwapRateUptoSaid : Prop := fnExactSwapRateUptoRow.holds Tryd.pinned (OpenSpec.upto fnExactSwapRateSpec)

end Rows
end Go.Proofs.YtbofmoelmhbpoaaDoor
