/-
  NARROWER THAN 'FOR EVERY INPUT', by the rows' own cells (each row's printed sentence says how): FnExactDiscountOf: ifaces, laid · FnExactPowRange: ifaces, laid · FnDiscountOf: ifaces, laid · FnDiscountOfNear: ifaces, laid · FnDiscountOfPeriods: ifaces, laid · FnPowRange: ifaces, laid · FnPowRangeSum: ifaces, laid.
  DERIVED. THE GIVEN ROWS OF THIS SEAT. 7 by the template 'for every input the law returns true; each argument reads behind the call as it read before'; 0 by the template 'total and deterministic' (their statements: YtenmpmanbkaabaaDoorTotals.lean).
  GIVEN WITH THE SEED: the statements are not yours to turn. If you find one false, say at which input.
  Laid BY PROGRAM, IN A SANDBOX (cutbox-rows.mjs): the forced cells as the released guide's own fill.sh prints them over the translation 462c19492f5e98ff… (all of the seat's roots in one cut). By AI agents, Wed Nov 11 2026. No macro, syntax, notation, axiom, sorry.
-/
import Derived.Test.YtenmpmanbkaabaaDoorChecked
import GoSem.Claim
import GoSem.ClaimJoined
import GoSem.ClaimMapViews
import Derived.JoinedTies
import Derived.KernelRfl
namespace Go.Proofs.YtenmpmanbkaabaaDoor
/- THE CELL 'sum', in the pinned program and in every row, IS THE sha256 OF THE DUMP (.gsa) THAT YtenmpmanbkaabaaDoorProg.lean LOADS. Nothing in Lean hashes anything: it is a label: what it is worth is what the hold of that sum in a sandbox is worth. -/
noncomputable def Tryd.pinned : Pinned := { name := "ytenmpmanbkaabaadoor", sum := "462c19492f5e98ffde8a68e264c86ef9d00be5944fd51dc422abd5ccdbeb75b4", checked := Tryd.checked }
namespace Rows
def none {H : Type} : Left H := { results := [], args := [] }

/- WHAT THE LISTED PACKAGE-LEVEL VARIABLES READ AS WHEN THE CALL BEGINS. Each datum BY PROGRAM (the guide's laid-datum.mjs) off the statement by which the dump's own 'gosem.cut.vars' lays the variable. In a bare row this is a premise. The card (YtenmpmanbkaabaaDoorCards.lean) ties it to the program's text. -/
def laid_loop_example_bonddesk_impl_errRange {H : Type} : DataW H := .iface "*errors.errorString" (.ptr (.agg [.lit (.string [110, 111, 32, 114, 97, 110, 103, 101])]))

/-- 'laws.FnExactDiscountOf': WHATEVER THE INPUT: true; the input reads as it did. -/
def fnExactDiscountOfSpec : ChangeSpec := { name := "fnExactDiscountOf", vars := ["loop.example/bonddesk/impl.errRange"], fn := fun _ => fun
  | [d1, d2, d3, d4, g1] => { results := [.lit (.bool true)], args := [d1, d2, d3, d4], vars := [g1] }
  | _ => none }
def fnExactDiscountOfRow : OpenClaim := { program := "ytenmpmanbkaabaadoor", sum := "462c19492f5e98ffde8a68e264c86ef9d00be5944fd51dc422abd5ccdbeb75b4", func := "loop.example/bonddesk/laws.FnExactDiscountOf", spec := "fnExactDiscountOf", unfollowed := true, recurses := true, named := ["loop.example/bonddesk/impl.errRange"], ifaces := true, apart := false, laid := [("loop.example/bonddesk/impl.errRange", laid_loop_example_bonddesk_impl_errRange)] }
def FnExactDiscountOfSaid : Prop := fnExactDiscountOfRow.holds Tryd.pinned (OpenSpec.ofChange fnExactDiscountOfSpec)

/-- ITS FALSE NEIGHBOUR: 'it returns false'. Refute it at one input. -/
def fnExactDiscountOfWrong : ChangeSpec := { name := "fnExactDiscountOf", vars := ["loop.example/bonddesk/impl.errRange"], fn := fun _ => fun
  | [d1, d2, d3, d4, g1] => { results := [.lit (.bool false)], args := [d1, d2, d3, d4], vars := [g1] }
  | _ => none }
def FnExactDiscountOfWrongFalsely : Prop := fnExactDiscountOfRow.holds Tryd.pinned (OpenSpec.ofChange fnExactDiscountOfWrong)

/-- 'laws.FnExactPowRange': WHATEVER THE INPUT: true; the input reads as it did. -/
def fnExactPowRangeSpec : ChangeSpec := { name := "fnExactPowRange", vars := ["loop.example/bonddesk/impl.errRange"], fn := fun _ => fun
  | [d1, d2, g1] => { results := [.lit (.bool true)], args := [d1, d2], vars := [g1] }
  | _ => none }
def fnExactPowRangeRow : OpenClaim := { program := "ytenmpmanbkaabaadoor", sum := "462c19492f5e98ffde8a68e264c86ef9d00be5944fd51dc422abd5ccdbeb75b4", func := "loop.example/bonddesk/laws.FnExactPowRange", spec := "fnExactPowRange", unfollowed := true, recurses := true, named := ["loop.example/bonddesk/impl.errRange"], ifaces := true, apart := false, laid := [("loop.example/bonddesk/impl.errRange", laid_loop_example_bonddesk_impl_errRange)] }
def FnExactPowRangeSaid : Prop := fnExactPowRangeRow.holds Tryd.pinned (OpenSpec.ofChange fnExactPowRangeSpec)

/-- ITS FALSE NEIGHBOUR: 'it returns false'. Refute it at one input. -/
def fnExactPowRangeWrong : ChangeSpec := { name := "fnExactPowRange", vars := ["loop.example/bonddesk/impl.errRange"], fn := fun _ => fun
  | [d1, d2, g1] => { results := [.lit (.bool false)], args := [d1, d2], vars := [g1] }
  | _ => none }
def FnExactPowRangeWrongFalsely : Prop := fnExactPowRangeRow.holds Tryd.pinned (OpenSpec.ofChange fnExactPowRangeWrong)

/-- 'laws.FnDiscountOf': WHATEVER THE INPUT: true; the input reads as it did. -/
def fnDiscountOfSpec : ChangeSpec := { name := "fnDiscountOf", vars := ["loop.example/bonddesk/impl.errRange"], fn := fun _ => fun
  | [d, g1] => { results := [.lit (.bool true)], args := [d], vars := [g1] }
  | _ => none }
def fnDiscountOfRow : OpenClaim := { program := "ytenmpmanbkaabaadoor", sum := "462c19492f5e98ffde8a68e264c86ef9d00be5944fd51dc422abd5ccdbeb75b4", func := "loop.example/bonddesk/laws.FnDiscountOf", spec := "fnDiscountOf", unfollowed := true, recurses := true, named := ["loop.example/bonddesk/impl.errRange"], ifaces := true, apart := false, laid := [("loop.example/bonddesk/impl.errRange", laid_loop_example_bonddesk_impl_errRange)] }
def FnDiscountOfSaid : Prop := fnDiscountOfRow.holds Tryd.pinned (OpenSpec.ofChange fnDiscountOfSpec)

/-- ITS FALSE NEIGHBOUR: 'it returns false'. Refute it at one input. -/
def fnDiscountOfWrong : ChangeSpec := { name := "fnDiscountOf", vars := ["loop.example/bonddesk/impl.errRange"], fn := fun _ => fun
  | [d, g1] => { results := [.lit (.bool false)], args := [d], vars := [g1] }
  | _ => none }
def FnDiscountOfWrongFalsely : Prop := fnDiscountOfRow.holds Tryd.pinned (OpenSpec.ofChange fnDiscountOfWrong)

/-- 'laws.FnDiscountOfNear': WHATEVER THE INPUT: true; the input reads as it did. -/
def fnDiscountOfNearSpec : ChangeSpec := { name := "fnDiscountOfNear", vars := ["loop.example/bonddesk/impl.errRange"], fn := fun _ => fun
  | [d, g1] => { results := [.lit (.bool true)], args := [d], vars := [g1] }
  | _ => none }
def fnDiscountOfNearRow : OpenClaim := { program := "ytenmpmanbkaabaadoor", sum := "462c19492f5e98ffde8a68e264c86ef9d00be5944fd51dc422abd5ccdbeb75b4", func := "loop.example/bonddesk/laws.FnDiscountOfNear", spec := "fnDiscountOfNear", unfollowed := true, recurses := true, named := ["loop.example/bonddesk/impl.errRange"], ifaces := true, apart := false, laid := [("loop.example/bonddesk/impl.errRange", laid_loop_example_bonddesk_impl_errRange)] }
def FnDiscountOfNearSaid : Prop := fnDiscountOfNearRow.holds Tryd.pinned (OpenSpec.ofChange fnDiscountOfNearSpec)

/-- ITS FALSE NEIGHBOUR: 'it returns false'. Refute it at one input. -/
def fnDiscountOfNearWrong : ChangeSpec := { name := "fnDiscountOfNear", vars := ["loop.example/bonddesk/impl.errRange"], fn := fun _ => fun
  | [d, g1] => { results := [.lit (.bool false)], args := [d], vars := [g1] }
  | _ => none }
def FnDiscountOfNearWrongFalsely : Prop := fnDiscountOfNearRow.holds Tryd.pinned (OpenSpec.ofChange fnDiscountOfNearWrong)

/-- 'laws.FnDiscountOfPeriods': WHATEVER THE INPUT: true; the input reads as it did. -/
def fnDiscountOfPeriodsSpec : ChangeSpec := { name := "fnDiscountOfPeriods", vars := ["loop.example/bonddesk/impl.errRange"], fn := fun _ => fun
  | [d, g1] => { results := [.lit (.bool true)], args := [d], vars := [g1] }
  | _ => none }
def fnDiscountOfPeriodsRow : OpenClaim := { program := "ytenmpmanbkaabaadoor", sum := "462c19492f5e98ffde8a68e264c86ef9d00be5944fd51dc422abd5ccdbeb75b4", func := "loop.example/bonddesk/laws.FnDiscountOfPeriods", spec := "fnDiscountOfPeriods", inPlace := ["internal/reflectlite.TypeOf"], unfollowed := true, recurses := true, named := ["loop.example/bonddesk/impl.errRange"], ifaces := true, apart := false, laid := [("loop.example/bonddesk/impl.errRange", laid_loop_example_bonddesk_impl_errRange)] }
def FnDiscountOfPeriodsSaid : Prop := fnDiscountOfPeriodsRow.holds Tryd.pinned (OpenSpec.ofChange fnDiscountOfPeriodsSpec)

/-- ITS FALSE NEIGHBOUR: 'it returns false'. Refute it at one input. -/
def fnDiscountOfPeriodsWrong : ChangeSpec := { name := "fnDiscountOfPeriods", vars := ["loop.example/bonddesk/impl.errRange"], fn := fun _ => fun
  | [d, g1] => { results := [.lit (.bool false)], args := [d], vars := [g1] }
  | _ => none }
def FnDiscountOfPeriodsWrongFalsely : Prop := fnDiscountOfPeriodsRow.holds Tryd.pinned (OpenSpec.ofChange fnDiscountOfPeriodsWrong)

/-- 'laws.FnPowRange': WHATEVER THE INPUT: true; the input reads as it did. -/
def fnPowRangeSpec : ChangeSpec := { name := "fnPowRange", vars := ["loop.example/bonddesk/impl.errRange"], fn := fun _ => fun
  | [d, g1] => { results := [.lit (.bool true)], args := [d], vars := [g1] }
  | _ => none }
def fnPowRangeRow : OpenClaim := { program := "ytenmpmanbkaabaadoor", sum := "462c19492f5e98ffde8a68e264c86ef9d00be5944fd51dc422abd5ccdbeb75b4", func := "loop.example/bonddesk/laws.FnPowRange", spec := "fnPowRange", inPlace := ["internal/reflectlite.TypeOf"], unfollowed := true, recurses := true, named := ["loop.example/bonddesk/impl.errRange"], ifaces := true, apart := false, laid := [("loop.example/bonddesk/impl.errRange", laid_loop_example_bonddesk_impl_errRange)] }
def FnPowRangeSaid : Prop := fnPowRangeRow.holds Tryd.pinned (OpenSpec.ofChange fnPowRangeSpec)

/-- ITS FALSE NEIGHBOUR: 'it returns false'. Refute it at one input. -/
def fnPowRangeWrong : ChangeSpec := { name := "fnPowRange", vars := ["loop.example/bonddesk/impl.errRange"], fn := fun _ => fun
  | [d, g1] => { results := [.lit (.bool false)], args := [d], vars := [g1] }
  | _ => none }
def FnPowRangeWrongFalsely : Prop := fnPowRangeRow.holds Tryd.pinned (OpenSpec.ofChange fnPowRangeWrong)

/-- 'laws.FnPowRangeSum': WHATEVER THE INPUT: true; the input reads as it did. -/
def fnPowRangeSumSpec : ChangeSpec := { name := "fnPowRangeSum", vars := ["loop.example/bonddesk/impl.errRange"], fn := fun _ => fun
  | [d, g1] => { results := [.lit (.bool true)], args := [d], vars := [g1] }
  | _ => none }
def fnPowRangeSumRow : OpenClaim := { program := "ytenmpmanbkaabaadoor", sum := "462c19492f5e98ffde8a68e264c86ef9d00be5944fd51dc422abd5ccdbeb75b4", func := "loop.example/bonddesk/laws.FnPowRangeSum", spec := "fnPowRangeSum", inPlace := ["internal/reflectlite.TypeOf"], unfollowed := true, recurses := true, named := ["loop.example/bonddesk/impl.errRange"], ifaces := true, apart := false, laid := [("loop.example/bonddesk/impl.errRange", laid_loop_example_bonddesk_impl_errRange)] }
def FnPowRangeSumSaid : Prop := fnPowRangeSumRow.holds Tryd.pinned (OpenSpec.ofChange fnPowRangeSumSpec)

/-- ITS FALSE NEIGHBOUR: 'it returns false'. Refute it at one input. -/
def fnPowRangeSumWrong : ChangeSpec := { name := "fnPowRangeSum", vars := ["loop.example/bonddesk/impl.errRange"], fn := fun _ => fun
  | [d, g1] => { results := [.lit (.bool false)], args := [d], vars := [g1] }
  | _ => none }
def FnPowRangeSumWrongFalsely : Prop := fnPowRangeSumRow.holds Tryd.pinned (OpenSpec.ofChange fnPowRangeSumWrong)

/- THE SECOND FORM. 'bulk': how many values and letters a reading holds, each counted each time it is reached (what is shared counts as often as it is met; a slice's spare places count too). A statement '..UptoSaid' is the law's where the arguments, and the package variables that the reading takes, are together of bulk at most 1048576: NARROWER than '..Said'. Prove '..Said' where nothing that the law and all that it calls make is longer than what came in: it says more and counts as full. Else prove '..UptoSaid'. A law counts once. -/
mutual
def uptoBulk {H : Type} : DataW H → Nat
  | .lit (.string bytes) => bytes.length + 1
  | .lit _ => 1
  | .nil => 1
  | .ptr d => uptoBulk d + 1
  | .slice elems spare => uptoBulkAll elems + uptoBulkAll spare + 1
  | .agg parts => uptoBulkAll parts + 1
  | .iface _ d => uptoBulk d + 1
  | .map entries => uptoBulkEntries entries + 1
  | .held _ => 1
def uptoBulkAll {H : Type} : List (DataW H) → Nat
  | [] => 0
  | d :: r => uptoBulk d + uptoBulkAll r
def uptoBulkEntries {H : Type} : List (Lit × DataW H) → Nat
  | [] => 0
  | x :: r => uptoBulkEntry x + uptoBulkEntries r
def uptoBulkEntry {H : Type} : Lit × DataW H → Nat
  | (.string bytes, d) => bytes.length + uptoBulk d + 1
  | (_, d) => uptoBulk d + 1
 end
def uptoSmall : (H : Type) → List (DataW H) → Bool := fun _ ds => decide (uptoBulkAll ds ≤ 1048576)
def OpenSpec.upto (s : _root_.Go.ChangeSpec) : _root_.Go.OpenSpec := { _root_.Go.OpenSpec.ofChange s with cond := some uptoSmall }

/-- 'laws.FnExactDiscountOf', WHERE WHAT IT READS IS OF BULK AT MOST 1048576: true; the input reads as it did. -/
def fnExactDiscountOfUptoRow : OpenClaim := { program := "ytenmpmanbkaabaadoor", sum := "462c19492f5e98ffde8a68e264c86ef9d00be5944fd51dc422abd5ccdbeb75b4", func := "loop.example/bonddesk/laws.FnExactDiscountOf", spec := "fnExactDiscountOf", unfollowed := true, recurses := true, named := ["loop.example/bonddesk/impl.errRange"], ifaces := true, apart := false, laid := [("loop.example/bonddesk/impl.errRange", laid_loop_example_bonddesk_impl_errRange)], narrowed := true }
def FnExactDiscountOfUptoSaid : Prop := fnExactDiscountOfUptoRow.holds Tryd.pinned (OpenSpec.upto fnExactDiscountOfSpec)

/-- 'laws.FnExactPowRange', WHERE WHAT IT READS IS OF BULK AT MOST 1048576: true; the input reads as it did. -/
def fnExactPowRangeUptoRow : OpenClaim := { program := "ytenmpmanbkaabaadoor", sum := "462c19492f5e98ffde8a68e264c86ef9d00be5944fd51dc422abd5ccdbeb75b4", func := "loop.example/bonddesk/laws.FnExactPowRange", spec := "fnExactPowRange", unfollowed := true, recurses := true, named := ["loop.example/bonddesk/impl.errRange"], ifaces := true, apart := false, laid := [("loop.example/bonddesk/impl.errRange", laid_loop_example_bonddesk_impl_errRange)], narrowed := true }
def FnExactPowRangeUptoSaid : Prop := fnExactPowRangeUptoRow.holds Tryd.pinned (OpenSpec.upto fnExactPowRangeSpec)

/-- 'laws.FnDiscountOf', WHERE WHAT IT READS IS OF BULK AT MOST 1048576: true; the input reads as it did. -/
def fnDiscountOfUptoRow : OpenClaim := { program := "ytenmpmanbkaabaadoor", sum := "462c19492f5e98ffde8a68e264c86ef9d00be5944fd51dc422abd5ccdbeb75b4", func := "loop.example/bonddesk/laws.FnDiscountOf", spec := "fnDiscountOf", unfollowed := true, recurses := true, named := ["loop.example/bonddesk/impl.errRange"], ifaces := true, apart := false, laid := [("loop.example/bonddesk/impl.errRange", laid_loop_example_bonddesk_impl_errRange)], narrowed := true }
def FnDiscountOfUptoSaid : Prop := fnDiscountOfUptoRow.holds Tryd.pinned (OpenSpec.upto fnDiscountOfSpec)

/-- 'laws.FnDiscountOfNear', WHERE WHAT IT READS IS OF BULK AT MOST 1048576: true; the input reads as it did. -/
def fnDiscountOfNearUptoRow : OpenClaim := { program := "ytenmpmanbkaabaadoor", sum := "462c19492f5e98ffde8a68e264c86ef9d00be5944fd51dc422abd5ccdbeb75b4", func := "loop.example/bonddesk/laws.FnDiscountOfNear", spec := "fnDiscountOfNear", unfollowed := true, recurses := true, named := ["loop.example/bonddesk/impl.errRange"], ifaces := true, apart := false, laid := [("loop.example/bonddesk/impl.errRange", laid_loop_example_bonddesk_impl_errRange)], narrowed := true }
def FnDiscountOfNearUptoSaid : Prop := fnDiscountOfNearUptoRow.holds Tryd.pinned (OpenSpec.upto fnDiscountOfNearSpec)

/-- 'laws.FnDiscountOfPeriods', WHERE WHAT IT READS IS OF BULK AT MOST 1048576: true; the input reads as it did. -/
def fnDiscountOfPeriodsUptoRow : OpenClaim := { program := "ytenmpmanbkaabaadoor", sum := "462c19492f5e98ffde8a68e264c86ef9d00be5944fd51dc422abd5ccdbeb75b4", func := "loop.example/bonddesk/laws.FnDiscountOfPeriods", spec := "fnDiscountOfPeriods", inPlace := ["internal/reflectlite.TypeOf"], unfollowed := true, recurses := true, named := ["loop.example/bonddesk/impl.errRange"], ifaces := true, apart := false, laid := [("loop.example/bonddesk/impl.errRange", laid_loop_example_bonddesk_impl_errRange)], narrowed := true }
def FnDiscountOfPeriodsUptoSaid : Prop := fnDiscountOfPeriodsUptoRow.holds Tryd.pinned (OpenSpec.upto fnDiscountOfPeriodsSpec)

/-- 'laws.FnPowRange', WHERE WHAT IT READS IS OF BULK AT MOST 1048576: true; the input reads as it did. -/
def fnPowRangeUptoRow : OpenClaim := { program := "ytenmpmanbkaabaadoor", sum := "462c19492f5e98ffde8a68e264c86ef9d00be5944fd51dc422abd5ccdbeb75b4", func := "loop.example/bonddesk/laws.FnPowRange", spec := "fnPowRange", inPlace := ["internal/reflectlite.TypeOf"], unfollowed := true, recurses := true, named := ["loop.example/bonddesk/impl.errRange"], ifaces := true, apart := false, laid := [("loop.example/bonddesk/impl.errRange", laid_loop_example_bonddesk_impl_errRange)], narrowed := true }
def FnPowRangeUptoSaid : Prop := fnPowRangeUptoRow.holds Tryd.pinned (OpenSpec.upto fnPowRangeSpec)

/-- 'laws.FnPowRangeSum', WHERE WHAT IT READS IS OF BULK AT MOST 1048576: true; the input reads as it did. -/
def fnPowRangeSumUptoRow : OpenClaim := { program := "ytenmpmanbkaabaadoor", sum := "462c19492f5e98ffde8a68e264c86ef9d00be5944fd51dc422abd5ccdbeb75b4", func := "loop.example/bonddesk/laws.FnPowRangeSum", spec := "fnPowRangeSum", inPlace := ["internal/reflectlite.TypeOf"], unfollowed := true, recurses := true, named := ["loop.example/bonddesk/impl.errRange"], ifaces := true, apart := false, laid := [("loop.example/bonddesk/impl.errRange", laid_loop_example_bonddesk_impl_errRange)], narrowed := true }
def FnPowRangeSumUptoSaid : Prop := fnPowRangeSumUptoRow.holds Tryd.pinned (OpenSpec.upto fnPowRangeSumSpec)

end Rows
end Go.Proofs.YtenmpmanbkaabaaDoor
