/-
  NARROWER THAN 'FOR EVERY INPUT', by the rows' own cells (each row's printed sentence says how): FnCurveOfFlat: ifaces, laid · FnCurveOfHigher: ifaces, laid · FnCurveOfPrefix: ifaces, laid · FnExactCurveOf: ifaces, laid · FnCurveOf: ifaces, laid.
  DERIVED. THE GIVEN ROWS OF THIS SEAT. 5 by the template 'for every input the law returns true; each argument reads behind the call as it read before'; 0 by the template 'total and deterministic' (their statements: YtomhnfajnbhaoaaDoorTotals.lean).
  GIVEN WITH THE SEED: the statements are not yours to turn. If you find one false, say at which input.
  Laid BY PROGRAM, IN A SANDBOX (cutbox-rows.mjs): the forced cells as the released guide's own fill.sh prints them over the translation c49f25faf94d1ea2… (all of the seat's roots in one cut). By AI agents, Wed Nov 11 2026. No macro, syntax, notation, axiom, sorry.
-/
import Derived.Test.YtomhnfajnbhaoaaDoorChecked
import GoSem.Claim
import GoSem.ClaimJoined
import GoSem.ClaimMapViews
import Derived.JoinedTies
import Derived.KernelRfl
namespace Go.Proofs.YtomhnfajnbhaoaaDoor
/- THE CELL 'sum', in the pinned program and in every row, IS THE sha256 OF THE DUMP (.gsa) THAT YtomhnfajnbhaoaaDoorProg.lean LOADS. Nothing in Lean hashes anything: it is a label: what it is worth is what the hold of that sum in a sandbox is worth. -/
noncomputable def Tryd.pinned : Pinned := { name := "ytomhnfajnbhaoaadoor", sum := "c49f25faf94d1ea2fb4dd7024f9a0aae7d414bd01130d7ae56c74c323a140368", checked := Tryd.checked }
namespace Rows
def none {H : Type} : Left H := { results := [], args := [] }

/- WHAT THE LISTED PACKAGE-LEVEL VARIABLES READ AS WHEN THE CALL BEGINS. Each datum BY PROGRAM (the guide's laid-datum.mjs) off the statement by which the dump's own 'gosem.cut.vars' lays the variable. In a bare row this is a premise. The card (YtomhnfajnbhaoaaDoorCards.lean) ties it to the program's text. -/
def laid_loop_example_bonddesk_impl_errRange {H : Type} : DataW H := .iface "*errors.errorString" (.ptr (.agg [.lit (.string [110, 111, 32, 114, 97, 110, 103, 101])]))

/-- 'laws.FnCurveOfFlat': WHATEVER THE INPUT: true; the input reads as it did. -/
def fnCurveOfFlatSpec : ChangeSpec := { name := "fnCurveOfFlat", vars := ["loop.example/bonddesk/impl.errRange"], fn := fun _ => fun
  | [d, g1] => { results := [.lit (.bool true)], args := [d], vars := [g1] }
  | _ => none }
def fnCurveOfFlatRow : OpenClaim := { program := "ytomhnfajnbhaoaadoor", sum := "c49f25faf94d1ea2fb4dd7024f9a0aae7d414bd01130d7ae56c74c323a140368", func := "loop.example/bonddesk/laws.FnCurveOfFlat", spec := "fnCurveOfFlat", unfollowed := true, recurses := true, named := ["loop.example/bonddesk/impl.errRange"], ifaces := true, apart := false, laid := [("loop.example/bonddesk/impl.errRange", laid_loop_example_bonddesk_impl_errRange)] }
def FnCurveOfFlatSaid : Prop := fnCurveOfFlatRow.holds Tryd.pinned (OpenSpec.ofChange fnCurveOfFlatSpec)

/-- ITS FALSE NEIGHBOUR: 'it returns false'. Refute it at one input. -/
def fnCurveOfFlatWrong : ChangeSpec := { name := "fnCurveOfFlat", vars := ["loop.example/bonddesk/impl.errRange"], fn := fun _ => fun
  | [d, g1] => { results := [.lit (.bool false)], args := [d], vars := [g1] }
  | _ => none }
def FnCurveOfFlatWrongFalsely : Prop := fnCurveOfFlatRow.holds Tryd.pinned (OpenSpec.ofChange fnCurveOfFlatWrong)

/-- 'laws.FnCurveOfHigher': WHATEVER THE INPUT: true; the input reads as it did. -/
def fnCurveOfHigherSpec : ChangeSpec := { name := "fnCurveOfHigher", vars := ["loop.example/bonddesk/impl.errRange"], fn := fun _ => fun
  | [d, g1] => { results := [.lit (.bool true)], args := [d], vars := [g1] }
  | _ => none }
def fnCurveOfHigherRow : OpenClaim := { program := "ytomhnfajnbhaoaadoor", sum := "c49f25faf94d1ea2fb4dd7024f9a0aae7d414bd01130d7ae56c74c323a140368", func := "loop.example/bonddesk/laws.FnCurveOfHigher", spec := "fnCurveOfHigher", unfollowed := true, recurses := true, named := ["loop.example/bonddesk/impl.errRange"], ifaces := true, apart := false, laid := [("loop.example/bonddesk/impl.errRange", laid_loop_example_bonddesk_impl_errRange)] }
def FnCurveOfHigherSaid : Prop := fnCurveOfHigherRow.holds Tryd.pinned (OpenSpec.ofChange fnCurveOfHigherSpec)

/-- ITS FALSE NEIGHBOUR: 'it returns false'. Refute it at one input. -/
def fnCurveOfHigherWrong : ChangeSpec := { name := "fnCurveOfHigher", vars := ["loop.example/bonddesk/impl.errRange"], fn := fun _ => fun
  | [d, g1] => { results := [.lit (.bool false)], args := [d], vars := [g1] }
  | _ => none }
def FnCurveOfHigherWrongFalsely : Prop := fnCurveOfHigherRow.holds Tryd.pinned (OpenSpec.ofChange fnCurveOfHigherWrong)

/-- 'laws.FnCurveOfPrefix': WHATEVER THE INPUT: true; the input reads as it did. -/
def fnCurveOfPrefixSpec : ChangeSpec := { name := "fnCurveOfPrefix", vars := ["loop.example/bonddesk/impl.errRange"], fn := fun _ => fun
  | [d, g1] => { results := [.lit (.bool true)], args := [d], vars := [g1] }
  | _ => none }
def fnCurveOfPrefixRow : OpenClaim := { program := "ytomhnfajnbhaoaadoor", sum := "c49f25faf94d1ea2fb4dd7024f9a0aae7d414bd01130d7ae56c74c323a140368", func := "loop.example/bonddesk/laws.FnCurveOfPrefix", spec := "fnCurveOfPrefix", unfollowed := true, recurses := true, named := ["loop.example/bonddesk/impl.errRange"], ifaces := true, apart := false, laid := [("loop.example/bonddesk/impl.errRange", laid_loop_example_bonddesk_impl_errRange)] }
def FnCurveOfPrefixSaid : Prop := fnCurveOfPrefixRow.holds Tryd.pinned (OpenSpec.ofChange fnCurveOfPrefixSpec)

/-- ITS FALSE NEIGHBOUR: 'it returns false'. Refute it at one input. -/
def fnCurveOfPrefixWrong : ChangeSpec := { name := "fnCurveOfPrefix", vars := ["loop.example/bonddesk/impl.errRange"], fn := fun _ => fun
  | [d, g1] => { results := [.lit (.bool false)], args := [d], vars := [g1] }
  | _ => none }
def FnCurveOfPrefixWrongFalsely : Prop := fnCurveOfPrefixRow.holds Tryd.pinned (OpenSpec.ofChange fnCurveOfPrefixWrong)

/-- 'laws.FnExactCurveOf': WHATEVER THE INPUT: true; the input reads as it did. -/
def fnExactCurveOfSpec : ChangeSpec := { name := "fnExactCurveOf", vars := ["loop.example/bonddesk/impl.errRange"], fn := fun _ => fun
  | [d, g1] => { results := [.lit (.bool true)], args := [d], vars := [g1] }
  | _ => none }
def fnExactCurveOfRow : OpenClaim := { program := "ytomhnfajnbhaoaadoor", sum := "c49f25faf94d1ea2fb4dd7024f9a0aae7d414bd01130d7ae56c74c323a140368", func := "loop.example/bonddesk/laws.FnExactCurveOf", spec := "fnExactCurveOf", unfollowed := true, recurses := true, named := ["loop.example/bonddesk/impl.errRange"], ifaces := true, apart := false, laid := [("loop.example/bonddesk/impl.errRange", laid_loop_example_bonddesk_impl_errRange)] }
def FnExactCurveOfSaid : Prop := fnExactCurveOfRow.holds Tryd.pinned (OpenSpec.ofChange fnExactCurveOfSpec)

/-- ITS FALSE NEIGHBOUR: 'it returns false'. Refute it at one input. -/
def fnExactCurveOfWrong : ChangeSpec := { name := "fnExactCurveOf", vars := ["loop.example/bonddesk/impl.errRange"], fn := fun _ => fun
  | [d, g1] => { results := [.lit (.bool false)], args := [d], vars := [g1] }
  | _ => none }
def FnExactCurveOfWrongFalsely : Prop := fnExactCurveOfRow.holds Tryd.pinned (OpenSpec.ofChange fnExactCurveOfWrong)

/-- 'laws.FnCurveOf': WHATEVER THE INPUT: true; the input reads as it did. -/
def fnCurveOfSpec : ChangeSpec := { name := "fnCurveOf", vars := ["loop.example/bonddesk/impl.errRange"], fn := fun _ => fun
  | [d, g1] => { results := [.lit (.bool true)], args := [d], vars := [g1] }
  | _ => none }
def fnCurveOfRow : OpenClaim := { program := "ytomhnfajnbhaoaadoor", sum := "c49f25faf94d1ea2fb4dd7024f9a0aae7d414bd01130d7ae56c74c323a140368", func := "loop.example/bonddesk/laws.FnCurveOf", spec := "fnCurveOf", unfollowed := true, recurses := true, named := ["loop.example/bonddesk/impl.errRange"], ifaces := true, apart := false, laid := [("loop.example/bonddesk/impl.errRange", laid_loop_example_bonddesk_impl_errRange)] }
def FnCurveOfSaid : Prop := fnCurveOfRow.holds Tryd.pinned (OpenSpec.ofChange fnCurveOfSpec)

/-- ITS FALSE NEIGHBOUR: 'it returns false'. Refute it at one input. -/
def fnCurveOfWrong : ChangeSpec := { name := "fnCurveOf", vars := ["loop.example/bonddesk/impl.errRange"], fn := fun _ => fun
  | [d, g1] => { results := [.lit (.bool false)], args := [d], vars := [g1] }
  | _ => none }
def FnCurveOfWrongFalsely : Prop := fnCurveOfRow.holds Tryd.pinned (OpenSpec.ofChange fnCurveOfWrong)

/- THE SECOND FORM. 'bulk': how many values and letters a reading holds, each counted each time it is reached (what is shared counts as often as it is met; a slice's spare places count too). A statement '..UptoSaid' is the law's where the arguments, and the package variables that the reading takes, are together of bulk at most 1048576: NARROWER than '..Said'. Prove '..Said' where nothing that the law and all that it calls make is longer than what came in: it says more and counts as full. Else prove '..UptoSaid'. A law counts once. -/
mutual
def uptoBulk {H : Type} : DataW H → Nat
  | .lit (.string bytes) => bytes.length + 1
  | .lit _ => 1
  | .nil => 1
  | .ptr d => uptoBulk d + 1
  | .slice elems spare => uptoBulkAll elems + uptoBulkAll spare + 1
  | .agg parts => uptoBulkAll parts + 1
  | .iface _ d => uptoBulk d + 1
  | .map entries => uptoBulkEntries entries + 1
  | .held _ => 1
def uptoBulkAll {H : Type} : List (DataW H) → Nat
  | [] => 0
  | d :: r => uptoBulk d + uptoBulkAll r
def uptoBulkEntries {H : Type} : List (Lit × DataW H) → Nat
  | [] => 0
  | x :: r => uptoBulkEntry x + uptoBulkEntries r
def uptoBulkEntry {H : Type} : Lit × DataW H → Nat
  | (.string bytes, d) => bytes.length + uptoBulk d + 1
  | (_, d) => uptoBulk d + 1
 end
def uptoSmall : (H : Type) → List (DataW H) → Bool := fun _ ds => decide (uptoBulkAll ds ≤ 1048576)
def OpenSpec.upto (s : _root_.Go.ChangeSpec) : _root_.Go.OpenSpec := { _root_.Go.OpenSpec.ofChange s with cond := some uptoSmall }

/-- 'laws.FnCurveOfFlat', WHERE WHAT IT READS IS OF BULK AT MOST 1048576: true; the input reads as it did. -/
def fnCurveOfFlatUptoRow : OpenClaim := { program := "ytomhnfajnbhaoaadoor", sum := "c49f25faf94d1ea2fb4dd7024f9a0aae7d414bd01130d7ae56c74c323a140368", func := "loop.example/bonddesk/laws.FnCurveOfFlat", spec := "fnCurveOfFlat", unfollowed := true, recurses := true, named := ["loop.example/bonddesk/impl.errRange"], ifaces := true, apart := false, laid := [("loop.example/bonddesk/impl.errRange", laid_loop_example_bonddesk_impl_errRange)], narrowed := true }
def FnCurveOfFlatUptoSaid : Prop := fnCurveOfFlatUptoRow.holds Tryd.pinned (OpenSpec.upto fnCurveOfFlatSpec)

/-- 'laws.FnCurveOfHigher', WHERE WHAT IT READS IS OF BULK AT MOST 1048576: true; the input reads as it did. -/
def fnCurveOfHigherUptoRow : OpenClaim := { program := "ytomhnfajnbhaoaadoor", sum := "c49f25faf94d1ea2fb4dd7024f9a0aae7d414bd01130d7ae56c74c323a140368", func := "loop.example/bonddesk/laws.FnCurveOfHigher", spec := "fnCurveOfHigher", unfollowed := true, recurses := true, named := ["loop.example/bonddesk/impl.errRange"], ifaces := true, apart := false, laid := [("loop.example/bonddesk/impl.errRange", laid_loop_example_bonddesk_impl_errRange)], narrowed := true }
def FnCurveOfHigherUptoSaid : Prop := fnCurveOfHigherUptoRow.holds Tryd.pinned (OpenSpec.upto fnCurveOfHigherSpec)

/-- 'laws.FnCurveOfPrefix', WHERE WHAT IT READS IS OF BULK AT MOST 1048576: true; the input reads as it did. -/
def fnCurveOfPrefixUptoRow : OpenClaim := { program := "ytomhnfajnbhaoaadoor", sum := "c49f25faf94d1ea2fb4dd7024f9a0aae7d414bd01130d7ae56c74c323a140368", func := "loop.example/bonddesk/laws.FnCurveOfPrefix", spec := "fnCurveOfPrefix", unfollowed := true, recurses := true, named := ["loop.example/bonddesk/impl.errRange"], ifaces := true, apart := false, laid := [("loop.example/bonddesk/impl.errRange", laid_loop_example_bonddesk_impl_errRange)], narrowed := true }
def FnCurveOfPrefixUptoSaid : Prop := fnCurveOfPrefixUptoRow.holds Tryd.pinned (OpenSpec.upto fnCurveOfPrefixSpec)

/-- 'laws.FnExactCurveOf', WHERE WHAT IT READS IS OF BULK AT MOST 1048576: true; the input reads as it did. -/
def fnExactCurveOfUptoRow : OpenClaim := { program := "ytomhnfajnbhaoaadoor", sum := "c49f25faf94d1ea2fb4dd7024f9a0aae7d414bd01130d7ae56c74c323a140368", func := "loop.example/bonddesk/laws.FnExactCurveOf", spec := "fnExactCurveOf", unfollowed := true, recurses := true, named := ["loop.example/bonddesk/impl.errRange"], ifaces := true, apart := false, laid := [("loop.example/bonddesk/impl.errRange", laid_loop_example_bonddesk_impl_errRange)], narrowed := true }
def FnExactCurveOfUptoSaid : Prop := fnExactCurveOfUptoRow.holds Tryd.pinned (OpenSpec.upto fnExactCurveOfSpec)

/-- 'laws.FnCurveOf', WHERE WHAT IT READS IS OF BULK AT MOST 1048576: true; the input reads as it did. -/
def fnCurveOfUptoRow : OpenClaim := { program := "ytomhnfajnbhaoaadoor", sum := "c49f25faf94d1ea2fb4dd7024f9a0aae7d414bd01130d7ae56c74c323a140368", func := "loop.example/bonddesk/laws.FnCurveOf", spec := "fnCurveOf", unfollowed := true, recurses := true, named := ["loop.example/bonddesk/impl.errRange"], ifaces := true, apart := false, laid := [("loop.example/bonddesk/impl.errRange", laid_loop_example_bonddesk_impl_errRange)], narrowed := true }
def FnCurveOfUptoSaid : Prop := fnCurveOfUptoRow.holds Tryd.pinned (OpenSpec.upto fnCurveOfSpec)

end Rows
end Go.Proofs.YtomhnfajnbhaoaaDoor
