/-
  NARROWER THAN 'FOR EVERY INPUT', by the rows' own cells (each row's printed sentence says how): FnExactValidRange: ifaces, laid · FnExactInRange: ifaces, laid · FnValidRange: ifaces, laid · FnInRange: ifaces, laid · FnExactAddRange: ifaces, laid · FnAddRangeThree: ifaces, laid · FnExactDivRange: ifaces, laid · FnAddRange: ifaces, laid · FnExactMulRange: ifaces, laid · FnDivRangeOne: ifaces, laid · FnMulRange: ifaces, laid · FnMulRangeInside: ifaces, laid · FnDivRange: ifaces, laid.
  DERIVED. THE GIVEN ROWS OF THIS SEAT. 13 by the template 'for every input the law returns true; each argument reads behind the call as it read before'; 0 by the template 'total and deterministic' (their statements: YtemigniflobdcaaDoorTotals.lean).
  GIVEN WITH THE SEED: the statements are not yours to turn. If you find one false, say at which input.
  Laid BY PROGRAM, IN A SANDBOX (cutbox-rows.mjs): the forced cells as the released guide's own fill.sh prints them over the translation b71c498a91da8cbb… (all of the seat's roots in one cut). By AI agents, Wed Nov 11 2026. No macro, syntax, notation, axiom, sorry.
-/
import Derived.Test.YtemigniflobdcaaDoorChecked
import GoSem.Claim
import GoSem.ClaimJoined
import GoSem.ClaimMapViews
import Derived.JoinedTies
import Derived.KernelRfl
namespace Go.Proofs.YtemigniflobdcaaDoor
/- THE CELL 'sum', in the pinned program and in every row, IS THE sha256 OF THE DUMP (.gsa) THAT YtemigniflobdcaaDoorProg.lean LOADS. Nothing in Lean hashes anything: it is a label: what it is worth is what the hold of that sum in a sandbox is worth. -/
noncomputable def Tryd.pinned : Pinned := { name := "ytemigniflobdcaadoor", sum := "b71c498a91da8cbb786f9c33c05a0fec68a95da09fafb0590e5c8e9dbb6774ee", checked := Tryd.checked }
namespace Rows
def none {H : Type} : Left H := { results := [], args := [] }

/- WHAT THE LISTED PACKAGE-LEVEL VARIABLES READ AS WHEN THE CALL BEGINS. Each datum BY PROGRAM (the guide's laid-datum.mjs) off the statement by which the dump's own 'gosem.cut.vars' lays the variable. In a bare row this is a premise. The card (YtemigniflobdcaaDoorCards.lean) ties it to the program's text. -/
def laid_loop_example_bonddesk_impl_errRange {H : Type} : DataW H := .iface "*errors.errorString" (.ptr (.agg [.lit (.string [110, 111, 32, 114, 97, 110, 103, 101])]))

/-- 'laws.FnExactValidRange': WHATEVER THE INPUT: true; the input reads as it did. -/
def fnExactValidRangeSpec : ChangeSpec := { name := "fnExactValidRange", vars := ["loop.example/bonddesk/impl.errRange"], fn := fun _ => fun
  | [d, g1] => { results := [.lit (.bool true)], args := [d], vars := [g1] }
  | _ => none }
def fnExactValidRangeRow : OpenClaim := { program := "ytemigniflobdcaadoor", sum := "b71c498a91da8cbb786f9c33c05a0fec68a95da09fafb0590e5c8e9dbb6774ee", func := "loop.example/bonddesk/laws.FnExactValidRange", spec := "fnExactValidRange", named := ["loop.example/bonddesk/impl.errRange"], ifaces := true, apart := false, laid := [("loop.example/bonddesk/impl.errRange", laid_loop_example_bonddesk_impl_errRange)] }
def FnExactValidRangeSaid : Prop := fnExactValidRangeRow.holds Tryd.pinned (OpenSpec.ofChange fnExactValidRangeSpec)

/-- ITS FALSE NEIGHBOUR: 'it returns false'. Refute it at one input. -/
def fnExactValidRangeWrong : ChangeSpec := { name := "fnExactValidRange", vars := ["loop.example/bonddesk/impl.errRange"], fn := fun _ => fun
  | [d, g1] => { results := [.lit (.bool false)], args := [d], vars := [g1] }
  | _ => none }
def FnExactValidRangeWrongFalsely : Prop := fnExactValidRangeRow.holds Tryd.pinned (OpenSpec.ofChange fnExactValidRangeWrong)

/-- 'laws.FnExactInRange': WHATEVER THE INPUT: true; the input reads as it did. -/
def fnExactInRangeSpec : ChangeSpec := { name := "fnExactInRange", vars := ["loop.example/bonddesk/impl.errRange"], fn := fun _ => fun
  | [d1, d2, g1] => { results := [.lit (.bool true)], args := [d1, d2], vars := [g1] }
  | _ => none }
def fnExactInRangeRow : OpenClaim := { program := "ytemigniflobdcaadoor", sum := "b71c498a91da8cbb786f9c33c05a0fec68a95da09fafb0590e5c8e9dbb6774ee", func := "loop.example/bonddesk/laws.FnExactInRange", spec := "fnExactInRange", named := ["loop.example/bonddesk/impl.errRange"], ifaces := true, apart := false, laid := [("loop.example/bonddesk/impl.errRange", laid_loop_example_bonddesk_impl_errRange)] }
def FnExactInRangeSaid : Prop := fnExactInRangeRow.holds Tryd.pinned (OpenSpec.ofChange fnExactInRangeSpec)

/-- ITS FALSE NEIGHBOUR: 'it returns false'. Refute it at one input. -/
def fnExactInRangeWrong : ChangeSpec := { name := "fnExactInRange", vars := ["loop.example/bonddesk/impl.errRange"], fn := fun _ => fun
  | [d1, d2, g1] => { results := [.lit (.bool false)], args := [d1, d2], vars := [g1] }
  | _ => none }
def FnExactInRangeWrongFalsely : Prop := fnExactInRangeRow.holds Tryd.pinned (OpenSpec.ofChange fnExactInRangeWrong)

/-- 'laws.FnValidRange': WHATEVER THE INPUT: true; the input reads as it did. -/
def fnValidRangeSpec : ChangeSpec := { name := "fnValidRange", vars := ["loop.example/bonddesk/impl.errRange"], fn := fun _ => fun
  | [d, g1] => { results := [.lit (.bool true)], args := [d], vars := [g1] }
  | _ => none }
def fnValidRangeRow : OpenClaim := { program := "ytemigniflobdcaadoor", sum := "b71c498a91da8cbb786f9c33c05a0fec68a95da09fafb0590e5c8e9dbb6774ee", func := "loop.example/bonddesk/laws.FnValidRange", spec := "fnValidRange", named := ["loop.example/bonddesk/impl.errRange"], ifaces := true, apart := false, laid := [("loop.example/bonddesk/impl.errRange", laid_loop_example_bonddesk_impl_errRange)] }
def FnValidRangeSaid : Prop := fnValidRangeRow.holds Tryd.pinned (OpenSpec.ofChange fnValidRangeSpec)

/-- ITS FALSE NEIGHBOUR: 'it returns false'. Refute it at one input. -/
def fnValidRangeWrong : ChangeSpec := { name := "fnValidRange", vars := ["loop.example/bonddesk/impl.errRange"], fn := fun _ => fun
  | [d, g1] => { results := [.lit (.bool false)], args := [d], vars := [g1] }
  | _ => none }
def FnValidRangeWrongFalsely : Prop := fnValidRangeRow.holds Tryd.pinned (OpenSpec.ofChange fnValidRangeWrong)

/-- 'laws.FnInRange': WHATEVER THE INPUT: true; the input reads as it did. -/
def fnInRangeSpec : ChangeSpec := { name := "fnInRange", vars := ["loop.example/bonddesk/impl.errRange"], fn := fun _ => fun
  | [d, g1] => { results := [.lit (.bool true)], args := [d], vars := [g1] }
  | _ => none }
def fnInRangeRow : OpenClaim := { program := "ytemigniflobdcaadoor", sum := "b71c498a91da8cbb786f9c33c05a0fec68a95da09fafb0590e5c8e9dbb6774ee", func := "loop.example/bonddesk/laws.FnInRange", spec := "fnInRange", named := ["loop.example/bonddesk/impl.errRange"], ifaces := true, apart := false, laid := [("loop.example/bonddesk/impl.errRange", laid_loop_example_bonddesk_impl_errRange)] }
def FnInRangeSaid : Prop := fnInRangeRow.holds Tryd.pinned (OpenSpec.ofChange fnInRangeSpec)

/-- ITS FALSE NEIGHBOUR: 'it returns false'. Refute it at one input. -/
def fnInRangeWrong : ChangeSpec := { name := "fnInRange", vars := ["loop.example/bonddesk/impl.errRange"], fn := fun _ => fun
  | [d, g1] => { results := [.lit (.bool false)], args := [d], vars := [g1] }
  | _ => none }
def FnInRangeWrongFalsely : Prop := fnInRangeRow.holds Tryd.pinned (OpenSpec.ofChange fnInRangeWrong)

/-- 'laws.FnExactAddRange': WHATEVER THE INPUT: true; the input reads as it did. -/
def fnExactAddRangeSpec : ChangeSpec := { name := "fnExactAddRange", vars := ["loop.example/bonddesk/impl.errRange"], fn := fun _ => fun
  | [d1, d2, g1] => { results := [.lit (.bool true)], args := [d1, d2], vars := [g1] }
  | _ => none }
def fnExactAddRangeRow : OpenClaim := { program := "ytemigniflobdcaadoor", sum := "b71c498a91da8cbb786f9c33c05a0fec68a95da09fafb0590e5c8e9dbb6774ee", func := "loop.example/bonddesk/laws.FnExactAddRange", spec := "fnExactAddRange", inPlace := ["internal/reflectlite.TypeOf"], unfollowed := true, recurses := true, named := ["loop.example/bonddesk/impl.errRange"], ifaces := true, apart := false, laid := [("loop.example/bonddesk/impl.errRange", laid_loop_example_bonddesk_impl_errRange)] }
def FnExactAddRangeSaid : Prop := fnExactAddRangeRow.holds Tryd.pinned (OpenSpec.ofChange fnExactAddRangeSpec)

/-- ITS FALSE NEIGHBOUR: 'it returns false'. Refute it at one input. -/
def fnExactAddRangeWrong : ChangeSpec := { name := "fnExactAddRange", vars := ["loop.example/bonddesk/impl.errRange"], fn := fun _ => fun
  | [d1, d2, g1] => { results := [.lit (.bool false)], args := [d1, d2], vars := [g1] }
  | _ => none }
def FnExactAddRangeWrongFalsely : Prop := fnExactAddRangeRow.holds Tryd.pinned (OpenSpec.ofChange fnExactAddRangeWrong)

/-- 'laws.FnAddRangeThree': WHATEVER THE INPUT: true; the input reads as it did. -/
def fnAddRangeThreeSpec : ChangeSpec := { name := "fnAddRangeThree", vars := ["loop.example/bonddesk/impl.errRange"], fn := fun _ => fun
  | [d, g1] => { results := [.lit (.bool true)], args := [d], vars := [g1] }
  | _ => none }
def fnAddRangeThreeRow : OpenClaim := { program := "ytemigniflobdcaadoor", sum := "b71c498a91da8cbb786f9c33c05a0fec68a95da09fafb0590e5c8e9dbb6774ee", func := "loop.example/bonddesk/laws.FnAddRangeThree", spec := "fnAddRangeThree", inPlace := ["internal/reflectlite.TypeOf"], unfollowed := true, recurses := true, named := ["loop.example/bonddesk/impl.errRange"], ifaces := true, apart := false, laid := [("loop.example/bonddesk/impl.errRange", laid_loop_example_bonddesk_impl_errRange)] }
def FnAddRangeThreeSaid : Prop := fnAddRangeThreeRow.holds Tryd.pinned (OpenSpec.ofChange fnAddRangeThreeSpec)

/-- ITS FALSE NEIGHBOUR: 'it returns false'. Refute it at one input. -/
def fnAddRangeThreeWrong : ChangeSpec := { name := "fnAddRangeThree", vars := ["loop.example/bonddesk/impl.errRange"], fn := fun _ => fun
  | [d, g1] => { results := [.lit (.bool false)], args := [d], vars := [g1] }
  | _ => none }
def FnAddRangeThreeWrongFalsely : Prop := fnAddRangeThreeRow.holds Tryd.pinned (OpenSpec.ofChange fnAddRangeThreeWrong)

/-- 'laws.FnExactDivRange': WHATEVER THE INPUT: true; the input reads as it did. -/
def fnExactDivRangeSpec : ChangeSpec := { name := "fnExactDivRange", vars := ["loop.example/bonddesk/impl.errRange"], fn := fun _ => fun
  | [d1, d2, g1] => { results := [.lit (.bool true)], args := [d1, d2], vars := [g1] }
  | _ => none }
def fnExactDivRangeRow : OpenClaim := { program := "ytemigniflobdcaadoor", sum := "b71c498a91da8cbb786f9c33c05a0fec68a95da09fafb0590e5c8e9dbb6774ee", func := "loop.example/bonddesk/laws.FnExactDivRange", spec := "fnExactDivRange", inPlace := ["internal/reflectlite.TypeOf"], unfollowed := true, recurses := true, named := ["loop.example/bonddesk/impl.errRange"], ifaces := true, apart := false, laid := [("loop.example/bonddesk/impl.errRange", laid_loop_example_bonddesk_impl_errRange)] }
def FnExactDivRangeSaid : Prop := fnExactDivRangeRow.holds Tryd.pinned (OpenSpec.ofChange fnExactDivRangeSpec)

/-- ITS FALSE NEIGHBOUR: 'it returns false'. Refute it at one input. -/
def fnExactDivRangeWrong : ChangeSpec := { name := "fnExactDivRange", vars := ["loop.example/bonddesk/impl.errRange"], fn := fun _ => fun
  | [d1, d2, g1] => { results := [.lit (.bool false)], args := [d1, d2], vars := [g1] }
  | _ => none }
def FnExactDivRangeWrongFalsely : Prop := fnExactDivRangeRow.holds Tryd.pinned (OpenSpec.ofChange fnExactDivRangeWrong)

/-- 'laws.FnAddRange': WHATEVER THE INPUT: true; the input reads as it did. -/
def fnAddRangeSpec : ChangeSpec := { name := "fnAddRange", vars := ["loop.example/bonddesk/impl.errRange"], fn := fun _ => fun
  | [d, g1] => { results := [.lit (.bool true)], args := [d], vars := [g1] }
  | _ => none }
def fnAddRangeRow : OpenClaim := { program := "ytemigniflobdcaadoor", sum := "b71c498a91da8cbb786f9c33c05a0fec68a95da09fafb0590e5c8e9dbb6774ee", func := "loop.example/bonddesk/laws.FnAddRange", spec := "fnAddRange", inPlace := ["internal/reflectlite.TypeOf"], unfollowed := true, recurses := true, named := ["loop.example/bonddesk/impl.errRange"], ifaces := true, apart := false, laid := [("loop.example/bonddesk/impl.errRange", laid_loop_example_bonddesk_impl_errRange)] }
def FnAddRangeSaid : Prop := fnAddRangeRow.holds Tryd.pinned (OpenSpec.ofChange fnAddRangeSpec)

/-- ITS FALSE NEIGHBOUR: 'it returns false'. Refute it at one input. -/
def fnAddRangeWrong : ChangeSpec := { name := "fnAddRange", vars := ["loop.example/bonddesk/impl.errRange"], fn := fun _ => fun
  | [d, g1] => { results := [.lit (.bool false)], args := [d], vars := [g1] }
  | _ => none }
def FnAddRangeWrongFalsely : Prop := fnAddRangeRow.holds Tryd.pinned (OpenSpec.ofChange fnAddRangeWrong)

/-- 'laws.FnExactMulRange': WHATEVER THE INPUT: true; the input reads as it did. -/
def fnExactMulRangeSpec : ChangeSpec := { name := "fnExactMulRange", vars := ["loop.example/bonddesk/impl.errRange"], fn := fun _ => fun
  | [d1, d2, g1] => { results := [.lit (.bool true)], args := [d1, d2], vars := [g1] }
  | _ => none }
def fnExactMulRangeRow : OpenClaim := { program := "ytemigniflobdcaadoor", sum := "b71c498a91da8cbb786f9c33c05a0fec68a95da09fafb0590e5c8e9dbb6774ee", func := "loop.example/bonddesk/laws.FnExactMulRange", spec := "fnExactMulRange", inPlace := ["internal/reflectlite.TypeOf"], unfollowed := true, recurses := true, named := ["loop.example/bonddesk/impl.errRange"], ifaces := true, apart := false, laid := [("loop.example/bonddesk/impl.errRange", laid_loop_example_bonddesk_impl_errRange)] }
def FnExactMulRangeSaid : Prop := fnExactMulRangeRow.holds Tryd.pinned (OpenSpec.ofChange fnExactMulRangeSpec)

/-- ITS FALSE NEIGHBOUR: 'it returns false'. Refute it at one input. -/
def fnExactMulRangeWrong : ChangeSpec := { name := "fnExactMulRange", vars := ["loop.example/bonddesk/impl.errRange"], fn := fun _ => fun
  | [d1, d2, g1] => { results := [.lit (.bool false)], args := [d1, d2], vars := [g1] }
  | _ => none }
def FnExactMulRangeWrongFalsely : Prop := fnExactMulRangeRow.holds Tryd.pinned (OpenSpec.ofChange fnExactMulRangeWrong)

/-- 'laws.FnDivRangeOne': WHATEVER THE INPUT: true; the input reads as it did. -/
def fnDivRangeOneSpec : ChangeSpec := { name := "fnDivRangeOne", vars := ["loop.example/bonddesk/impl.errRange"], fn := fun _ => fun
  | [d, g1] => { results := [.lit (.bool true)], args := [d], vars := [g1] }
  | _ => none }
def fnDivRangeOneRow : OpenClaim := { program := "ytemigniflobdcaadoor", sum := "b71c498a91da8cbb786f9c33c05a0fec68a95da09fafb0590e5c8e9dbb6774ee", func := "loop.example/bonddesk/laws.FnDivRangeOne", spec := "fnDivRangeOne", inPlace := ["internal/reflectlite.TypeOf"], unfollowed := true, recurses := true, named := ["loop.example/bonddesk/impl.errRange"], ifaces := true, apart := false, laid := [("loop.example/bonddesk/impl.errRange", laid_loop_example_bonddesk_impl_errRange)] }
def FnDivRangeOneSaid : Prop := fnDivRangeOneRow.holds Tryd.pinned (OpenSpec.ofChange fnDivRangeOneSpec)

/-- ITS FALSE NEIGHBOUR: 'it returns false'. Refute it at one input. -/
def fnDivRangeOneWrong : ChangeSpec := { name := "fnDivRangeOne", vars := ["loop.example/bonddesk/impl.errRange"], fn := fun _ => fun
  | [d, g1] => { results := [.lit (.bool false)], args := [d], vars := [g1] }
  | _ => none }
def FnDivRangeOneWrongFalsely : Prop := fnDivRangeOneRow.holds Tryd.pinned (OpenSpec.ofChange fnDivRangeOneWrong)

/-- 'laws.FnMulRange': WHATEVER THE INPUT: true; the input reads as it did. -/
def fnMulRangeSpec : ChangeSpec := { name := "fnMulRange", vars := ["loop.example/bonddesk/impl.errRange"], fn := fun _ => fun
  | [d, g1] => { results := [.lit (.bool true)], args := [d], vars := [g1] }
  | _ => none }
def fnMulRangeRow : OpenClaim := { program := "ytemigniflobdcaadoor", sum := "b71c498a91da8cbb786f9c33c05a0fec68a95da09fafb0590e5c8e9dbb6774ee", func := "loop.example/bonddesk/laws.FnMulRange", spec := "fnMulRange", inPlace := ["internal/reflectlite.TypeOf"], unfollowed := true, recurses := true, named := ["loop.example/bonddesk/impl.errRange"], ifaces := true, apart := false, laid := [("loop.example/bonddesk/impl.errRange", laid_loop_example_bonddesk_impl_errRange)] }
def FnMulRangeSaid : Prop := fnMulRangeRow.holds Tryd.pinned (OpenSpec.ofChange fnMulRangeSpec)

/-- ITS FALSE NEIGHBOUR: 'it returns false'. Refute it at one input. -/
def fnMulRangeWrong : ChangeSpec := { name := "fnMulRange", vars := ["loop.example/bonddesk/impl.errRange"], fn := fun _ => fun
  | [d, g1] => { results := [.lit (.bool false)], args := [d], vars := [g1] }
  | _ => none }
def FnMulRangeWrongFalsely : Prop := fnMulRangeRow.holds Tryd.pinned (OpenSpec.ofChange fnMulRangeWrong)

/-- 'laws.FnMulRangeInside': WHATEVER THE INPUT: true; the input reads as it did. -/
def fnMulRangeInsideSpec : ChangeSpec := { name := "fnMulRangeInside", vars := ["loop.example/bonddesk/impl.errRange"], fn := fun _ => fun
  | [d, g1] => { results := [.lit (.bool true)], args := [d], vars := [g1] }
  | _ => none }
def fnMulRangeInsideRow : OpenClaim := { program := "ytemigniflobdcaadoor", sum := "b71c498a91da8cbb786f9c33c05a0fec68a95da09fafb0590e5c8e9dbb6774ee", func := "loop.example/bonddesk/laws.FnMulRangeInside", spec := "fnMulRangeInside", inPlace := ["internal/reflectlite.TypeOf"], unfollowed := true, recurses := true, named := ["loop.example/bonddesk/impl.errRange"], ifaces := true, apart := false, laid := [("loop.example/bonddesk/impl.errRange", laid_loop_example_bonddesk_impl_errRange)] }
def FnMulRangeInsideSaid : Prop := fnMulRangeInsideRow.holds Tryd.pinned (OpenSpec.ofChange fnMulRangeInsideSpec)

/-- ITS FALSE NEIGHBOUR: 'it returns false'. Refute it at one input. -/
def fnMulRangeInsideWrong : ChangeSpec := { name := "fnMulRangeInside", vars := ["loop.example/bonddesk/impl.errRange"], fn := fun _ => fun
  | [d, g1] => { results := [.lit (.bool false)], args := [d], vars := [g1] }
  | _ => none }
def FnMulRangeInsideWrongFalsely : Prop := fnMulRangeInsideRow.holds Tryd.pinned (OpenSpec.ofChange fnMulRangeInsideWrong)

/-- 'laws.FnDivRange': WHATEVER THE INPUT: true; the input reads as it did. -/
def fnDivRangeSpec : ChangeSpec := { name := "fnDivRange", vars := ["loop.example/bonddesk/impl.errRange"], fn := fun _ => fun
  | [d, g1] => { results := [.lit (.bool true)], args := [d], vars := [g1] }
  | _ => none }
def fnDivRangeRow : OpenClaim := { program := "ytemigniflobdcaadoor", sum := "b71c498a91da8cbb786f9c33c05a0fec68a95da09fafb0590e5c8e9dbb6774ee", func := "loop.example/bonddesk/laws.FnDivRange", spec := "fnDivRange", inPlace := ["internal/reflectlite.TypeOf"], unfollowed := true, recurses := true, named := ["loop.example/bonddesk/impl.errRange"], ifaces := true, apart := false, laid := [("loop.example/bonddesk/impl.errRange", laid_loop_example_bonddesk_impl_errRange)] }
def FnDivRangeSaid : Prop := fnDivRangeRow.holds Tryd.pinned (OpenSpec.ofChange fnDivRangeSpec)

/-- ITS FALSE NEIGHBOUR: 'it returns false'. Refute it at one input. -/
def fnDivRangeWrong : ChangeSpec := { name := "fnDivRange", vars := ["loop.example/bonddesk/impl.errRange"], fn := fun _ => fun
  | [d, g1] => { results := [.lit (.bool false)], args := [d], vars := [g1] }
  | _ => none }
def FnDivRangeWrongFalsely : Prop := fnDivRangeRow.holds Tryd.pinned (OpenSpec.ofChange fnDivRangeWrong)

/- THE SECOND FORM. 'bulk': how many values and letters a reading holds, each counted each time it is reached (what is shared counts as often as it is met; a slice's spare places count too). A statement '..UptoSaid' is the law's where the arguments, and the package variables that the reading takes, are together of bulk at most 1048576: NARROWER than '..Said'. Prove '..Said' where nothing that the law and all that it calls make is longer than what came in: it says more and counts as full. Else prove '..UptoSaid'. A law counts once. -/
mutual
def uptoBulk {H : Type} : DataW H → Nat
  | .lit (.string bytes) => bytes.length + 1
  | .lit _ => 1
  | .nil => 1
  | .ptr d => uptoBulk d + 1
  | .slice elems spare => uptoBulkAll elems + uptoBulkAll spare + 1
  | .agg parts => uptoBulkAll parts + 1
  | .iface _ d => uptoBulk d + 1
  | .map entries => uptoBulkEntries entries + 1
  | .held _ => 1
def uptoBulkAll {H : Type} : List (DataW H) → Nat
  | [] => 0
  | d :: r => uptoBulk d + uptoBulkAll r
def uptoBulkEntries {H : Type} : List (Lit × DataW H) → Nat
  | [] => 0
  | x :: r => uptoBulkEntry x + uptoBulkEntries r
def uptoBulkEntry {H : Type} : Lit × DataW H → Nat
  | (.string bytes, d) => bytes.length + uptoBulk d + 1
  | (_, d) => uptoBulk d + 1
 end
def uptoSmall : (H : Type) → List (DataW H) → Bool := fun _ ds => decide (uptoBulkAll ds ≤ 1048576)
def OpenSpec.upto (s : _root_.Go.ChangeSpec) : _root_.Go.OpenSpec := { _root_.Go.OpenSpec.ofChange s with cond := some uptoSmall }

/-- 'laws.FnExactValidRange', WHERE WHAT IT READS IS OF BULK AT MOST 1048576: true; the input reads as it did. -/
def fnExactValidRangeUptoRow : OpenClaim := { program := "ytemigniflobdcaadoor", sum := "b71c498a91da8cbb786f9c33c05a0fec68a95da09fafb0590e5c8e9dbb6774ee", func := "loop.example/bonddesk/laws.FnExactValidRange", spec := "fnExactValidRange", named := ["loop.example/bonddesk/impl.errRange"], ifaces := true, apart := false, laid := [("loop.example/bonddesk/impl.errRange", laid_loop_example_bonddesk_impl_errRange)], narrowed := true }
def FnExactValidRangeUptoSaid : Prop := fnExactValidRangeUptoRow.holds Tryd.pinned (OpenSpec.upto fnExactValidRangeSpec)

/-- 'laws.FnExactInRange', WHERE WHAT IT READS IS OF BULK AT MOST 1048576: true; the input reads as it did. -/
def fnExactInRangeUptoRow : OpenClaim := { program := "ytemigniflobdcaadoor", sum := "b71c498a91da8cbb786f9c33c05a0fec68a95da09fafb0590e5c8e9dbb6774ee", func := "loop.example/bonddesk/laws.FnExactInRange", spec := "fnExactInRange", named := ["loop.example/bonddesk/impl.errRange"], ifaces := true, apart := false, laid := [("loop.example/bonddesk/impl.errRange", laid_loop_example_bonddesk_impl_errRange)], narrowed := true }
def FnExactInRangeUptoSaid : Prop := fnExactInRangeUptoRow.holds Tryd.pinned (OpenSpec.upto fnExactInRangeSpec)

/-- 'laws.FnValidRange', WHERE WHAT IT READS IS OF BULK AT MOST 1048576: true; the input reads as it did. -/
def fnValidRangeUptoRow : OpenClaim := { program := "ytemigniflobdcaadoor", sum := "b71c498a91da8cbb786f9c33c05a0fec68a95da09fafb0590e5c8e9dbb6774ee", func := "loop.example/bonddesk/laws.FnValidRange", spec := "fnValidRange", named := ["loop.example/bonddesk/impl.errRange"], ifaces := true, apart := false, laid := [("loop.example/bonddesk/impl.errRange", laid_loop_example_bonddesk_impl_errRange)], narrowed := true }
def FnValidRangeUptoSaid : Prop := fnValidRangeUptoRow.holds Tryd.pinned (OpenSpec.upto fnValidRangeSpec)

/-- 'laws.FnInRange', WHERE WHAT IT READS IS OF BULK AT MOST 1048576: true; the input reads as it did. -/
def fnInRangeUptoRow : OpenClaim := { program := "ytemigniflobdcaadoor", sum := "b71c498a91da8cbb786f9c33c05a0fec68a95da09fafb0590e5c8e9dbb6774ee", func := "loop.example/bonddesk/laws.FnInRange", spec := "fnInRange", named := ["loop.example/bonddesk/impl.errRange"], ifaces := true, apart := false, laid := [("loop.example/bonddesk/impl.errRange", laid_loop_example_bonddesk_impl_errRange)], narrowed := true }
def FnInRangeUptoSaid : Prop := fnInRangeUptoRow.holds Tryd.pinned (OpenSpec.upto fnInRangeSpec)

/-- 'laws.FnExactAddRange', WHERE WHAT IT READS IS OF BULK AT MOST 1048576: true; the input reads as it did. -/
def fnExactAddRangeUptoRow : OpenClaim := { program := "ytemigniflobdcaadoor", sum := "b71c498a91da8cbb786f9c33c05a0fec68a95da09fafb0590e5c8e9dbb6774ee", func := "loop.example/bonddesk/laws.FnExactAddRange", spec := "fnExactAddRange", inPlace := ["internal/reflectlite.TypeOf"], unfollowed := true, recurses := true, named := ["loop.example/bonddesk/impl.errRange"], ifaces := true, apart := false, laid := [("loop.example/bonddesk/impl.errRange", laid_loop_example_bonddesk_impl_errRange)], narrowed := true }
def FnExactAddRangeUptoSaid : Prop := fnExactAddRangeUptoRow.holds Tryd.pinned (OpenSpec.upto fnExactAddRangeSpec)

/-- 'laws.FnAddRangeThree', WHERE WHAT IT READS IS OF BULK AT MOST 1048576: true; the input reads as it did. -/
def fnAddRangeThreeUptoRow : OpenClaim := { program := "ytemigniflobdcaadoor", sum := "b71c498a91da8cbb786f9c33c05a0fec68a95da09fafb0590e5c8e9dbb6774ee", func := "loop.example/bonddesk/laws.FnAddRangeThree", spec := "fnAddRangeThree", inPlace := ["internal/reflectlite.TypeOf"], unfollowed := true, recurses := true, named := ["loop.example/bonddesk/impl.errRange"], ifaces := true, apart := false, laid := [("loop.example/bonddesk/impl.errRange", laid_loop_example_bonddesk_impl_errRange)], narrowed := true }
def FnAddRangeThreeUptoSaid : Prop := fnAddRangeThreeUptoRow.holds Tryd.pinned (OpenSpec.upto fnAddRangeThreeSpec)

/-- 'laws.FnExactDivRange', WHERE WHAT IT READS IS OF BULK AT MOST 1048576: true; the input reads as it did. -/
def fnExactDivRangeUptoRow : OpenClaim := { program := "ytemigniflobdcaadoor", sum := "b71c498a91da8cbb786f9c33c05a0fec68a95da09fafb0590e5c8e9dbb6774ee", func := "loop.example/bonddesk/laws.FnExactDivRange", spec := "fnExactDivRange", inPlace := ["internal/reflectlite.TypeOf"], unfollowed := true, recurses := true, named := ["loop.example/bonddesk/impl.errRange"], ifaces := true, apart := false, laid := [("loop.example/bonddesk/impl.errRange", laid_loop_example_bonddesk_impl_errRange)], narrowed := true }
def FnExactDivRangeUptoSaid : Prop := fnExactDivRangeUptoRow.holds Tryd.pinned (OpenSpec.upto fnExactDivRangeSpec)

/-- 'laws.FnAddRange', WHERE WHAT IT READS IS OF BULK AT MOST 1048576: true; the input reads as it did. -/
def fnAddRangeUptoRow : OpenClaim := { program := "ytemigniflobdcaadoor", sum := "b71c498a91da8cbb786f9c33c05a0fec68a95da09fafb0590e5c8e9dbb6774ee", func := "loop.example/bonddesk/laws.FnAddRange", spec := "fnAddRange", inPlace := ["internal/reflectlite.TypeOf"], unfollowed := true, recurses := true, named := ["loop.example/bonddesk/impl.errRange"], ifaces := true, apart := false, laid := [("loop.example/bonddesk/impl.errRange", laid_loop_example_bonddesk_impl_errRange)], narrowed := true }
def FnAddRangeUptoSaid : Prop := fnAddRangeUptoRow.holds Tryd.pinned (OpenSpec.upto fnAddRangeSpec)

/-- 'laws.FnExactMulRange', WHERE WHAT IT READS IS OF BULK AT MOST 1048576: true; the input reads as it did. -/
def fnExactMulRangeUptoRow : OpenClaim := { program := "ytemigniflobdcaadoor", sum := "b71c498a91da8cbb786f9c33c05a0fec68a95da09fafb0590e5c8e9dbb6774ee", func := "loop.example/bonddesk/laws.FnExactMulRange", spec := "fnExactMulRange", inPlace := ["internal/reflectlite.TypeOf"], unfollowed := true, recurses := true, named := ["loop.example/bonddesk/impl.errRange"], ifaces := true, apart := false, laid := [("loop.example/bonddesk/impl.errRange", laid_loop_example_bonddesk_impl_errRange)], narrowed := true }
def FnExactMulRangeUptoSaid : Prop := fnExactMulRangeUptoRow.holds Tryd.pinned (OpenSpec.upto fnExactMulRangeSpec)

/-- 'laws.FnDivRangeOne', WHERE WHAT IT READS IS OF BULK AT MOST 1048576: true; the input reads as it did. -/
def fnDivRangeOneUptoRow : OpenClaim := { program := "ytemigniflobdcaadoor", sum := "b71c498a91da8cbb786f9c33c05a0fec68a95da09fafb0590e5c8e9dbb6774ee", func := "loop.example/bonddesk/laws.FnDivRangeOne", spec := "fnDivRangeOne", inPlace := ["internal/reflectlite.TypeOf"], unfollowed := true, recurses := true, named := ["loop.example/bonddesk/impl.errRange"], ifaces := true, apart := false, laid := [("loop.example/bonddesk/impl.errRange", laid_loop_example_bonddesk_impl_errRange)], narrowed := true }
def FnDivRangeOneUptoSaid : Prop := fnDivRangeOneUptoRow.holds Tryd.pinned (OpenSpec.upto fnDivRangeOneSpec)

/-- 'laws.FnMulRange', WHERE WHAT IT READS IS OF BULK AT MOST 1048576: true; the input reads as it did. -/
def fnMulRangeUptoRow : OpenClaim := { program := "ytemigniflobdcaadoor", sum := "b71c498a91da8cbb786f9c33c05a0fec68a95da09fafb0590e5c8e9dbb6774ee", func := "loop.example/bonddesk/laws.FnMulRange", spec := "fnMulRange", inPlace := ["internal/reflectlite.TypeOf"], unfollowed := true, recurses := true, named := ["loop.example/bonddesk/impl.errRange"], ifaces := true, apart := false, laid := [("loop.example/bonddesk/impl.errRange", laid_loop_example_bonddesk_impl_errRange)], narrowed := true }
def FnMulRangeUptoSaid : Prop := fnMulRangeUptoRow.holds Tryd.pinned (OpenSpec.upto fnMulRangeSpec)

/-- 'laws.FnMulRangeInside', WHERE WHAT IT READS IS OF BULK AT MOST 1048576: true; the input reads as it did. -/
def fnMulRangeInsideUptoRow : OpenClaim := { program := "ytemigniflobdcaadoor", sum := "b71c498a91da8cbb786f9c33c05a0fec68a95da09fafb0590e5c8e9dbb6774ee", func := "loop.example/bonddesk/laws.FnMulRangeInside", spec := "fnMulRangeInside", inPlace := ["internal/reflectlite.TypeOf"], unfollowed := true, recurses := true, named := ["loop.example/bonddesk/impl.errRange"], ifaces := true, apart := false, laid := [("loop.example/bonddesk/impl.errRange", laid_loop_example_bonddesk_impl_errRange)], narrowed := true }
def FnMulRangeInsideUptoSaid : Prop := fnMulRangeInsideUptoRow.holds Tryd.pinned (OpenSpec.upto fnMulRangeInsideSpec)

/-- 'laws.FnDivRange', WHERE WHAT IT READS IS OF BULK AT MOST 1048576: true; the input reads as it did. -/
def fnDivRangeUptoRow : OpenClaim := { program := "ytemigniflobdcaadoor", sum := "b71c498a91da8cbb786f9c33c05a0fec68a95da09fafb0590e5c8e9dbb6774ee", func := "loop.example/bonddesk/laws.FnDivRange", spec := "fnDivRange", inPlace := ["internal/reflectlite.TypeOf"], unfollowed := true, recurses := true, named := ["loop.example/bonddesk/impl.errRange"], ifaces := true, apart := false, laid := [("loop.example/bonddesk/impl.errRange", laid_loop_example_bonddesk_impl_errRange)], narrowed := true }
def FnDivRangeUptoSaid : Prop := fnDivRangeUptoRow.holds Tryd.pinned (OpenSpec.upto fnDivRangeSpec)

end Rows
end Go.Proofs.YtemigniflobdcaaDoor
