/-
  NARROWER THAN 'FOR EVERY INPUT', by the rows' own cells (each row's printed sentence says how): FnExactDaysIn: laid · FnExactValidDate: laid · FnDaysIn: laid · FnDaysInLeap: laid · FnExactDateOf: laid · FnAdjustDayNear: laid · FnExactAdjustDay: laid · FnAddBusiness: laid · FnAdjustDay: laid · FnAdjustDayMonth: laid.
  DERIVED. THE GIVEN ROWS OF THIS SEAT. 10 by the template 'for every input the law returns true; each argument reads behind the call as it read before'; 0 by the template 'total and deterministic' (their statements: YtnfcljokgnebmaaDoorTotals.lean).
  GIVEN WITH THE SEED: the statements are not yours to turn. If you find one false, say at which input.
  Laid BY PROGRAM, IN A SANDBOX (cutbox-rows.mjs): the forced cells as the released guide's own fill.sh prints them over the translation 0b4eedc83a98dade… (all of the seat's roots in one cut). By AI agents, Wed Nov 11 2026. No macro, syntax, notation, axiom, sorry.
-/
import Derived.Test.YtnfcljokgnebmaaDoorChecked
import GoSem.Claim
import GoSem.ClaimJoined
import GoSem.ClaimMapViews
import Derived.JoinedTies
import Derived.KernelRfl
namespace Go.Proofs.YtnfcljokgnebmaaDoor
/- THE CELL 'sum', in the pinned program and in every row, IS THE sha256 OF THE DUMP (.gsa) THAT YtnfcljokgnebmaaDoorProg.lean LOADS. Nothing in Lean hashes anything: it is a label: what it is worth is what the hold of that sum in a sandbox is worth. -/
noncomputable def Tryd.pinned : Pinned := { name := "ytnfcljokgnebmaadoor", sum := "0b4eedc83a98daded3efb49fff96040bc3f2b87abd31c5cf19be36e720db49f6", checked := Tryd.checked }
namespace Rows
def none {H : Type} : Left H := { results := [], args := [] }

/- WHAT THE LISTED PACKAGE-LEVEL VARIABLES READ AS WHEN THE CALL BEGINS. Each datum BY PROGRAM (the guide's laid-datum.mjs) off the statement by which the dump's own 'gosem.cut.vars' lays the variable. In a bare row this is a premise. The card (YtnfcljokgnebmaaDoorCards.lean) ties it to the program's text. -/
def laid_loop_example_bonddesk_impl_monthDays {H : Type} : DataW H := .agg [.lit (.int .i64 31), .lit (.int .i64 28), .lit (.int .i64 31), .lit (.int .i64 30), .lit (.int .i64 31), .lit (.int .i64 30), .lit (.int .i64 31), .lit (.int .i64 31), .lit (.int .i64 30), .lit (.int .i64 31), .lit (.int .i64 30), .lit (.int .i64 31)]

/-- 'laws.FnExactDaysIn': WHATEVER THE INPUT: true; the input reads as it did. -/
def fnExactDaysInSpec : ChangeSpec := { name := "fnExactDaysIn", vars := ["loop.example/bonddesk/impl.monthDays"], fn := fun _ => fun
  | [d1, d2, g1] => { results := [.lit (.bool true)], args := [d1, d2], vars := [g1] }
  | _ => none }
def fnExactDaysInRow : OpenClaim := { program := "ytnfcljokgnebmaadoor", sum := "0b4eedc83a98daded3efb49fff96040bc3f2b87abd31c5cf19be36e720db49f6", func := "loop.example/bonddesk/laws.FnExactDaysIn", spec := "fnExactDaysIn", named := ["loop.example/bonddesk/impl.monthDays"], apart := false, laid := [("loop.example/bonddesk/impl.monthDays", laid_loop_example_bonddesk_impl_monthDays)] }
def FnExactDaysInSaid : Prop := fnExactDaysInRow.holds Tryd.pinned (OpenSpec.ofChange fnExactDaysInSpec)

/-- ITS FALSE NEIGHBOUR: 'it returns false'. Refute it at one input. -/
def fnExactDaysInWrong : ChangeSpec := { name := "fnExactDaysIn", vars := ["loop.example/bonddesk/impl.monthDays"], fn := fun _ => fun
  | [d1, d2, g1] => { results := [.lit (.bool false)], args := [d1, d2], vars := [g1] }
  | _ => none }
def FnExactDaysInWrongFalsely : Prop := fnExactDaysInRow.holds Tryd.pinned (OpenSpec.ofChange fnExactDaysInWrong)

/-- 'laws.FnExactValidDate': WHATEVER THE INPUT: true; the input reads as it did. -/
def fnExactValidDateSpec : ChangeSpec := { name := "fnExactValidDate", vars := ["loop.example/bonddesk/impl.monthDays"], fn := fun _ => fun
  | [d, g1] => { results := [.lit (.bool true)], args := [d], vars := [g1] }
  | _ => none }
def fnExactValidDateRow : OpenClaim := { program := "ytnfcljokgnebmaadoor", sum := "0b4eedc83a98daded3efb49fff96040bc3f2b87abd31c5cf19be36e720db49f6", func := "loop.example/bonddesk/laws.FnExactValidDate", spec := "fnExactValidDate", named := ["loop.example/bonddesk/impl.monthDays"], apart := false, laid := [("loop.example/bonddesk/impl.monthDays", laid_loop_example_bonddesk_impl_monthDays)] }
def FnExactValidDateSaid : Prop := fnExactValidDateRow.holds Tryd.pinned (OpenSpec.ofChange fnExactValidDateSpec)

/-- ITS FALSE NEIGHBOUR: 'it returns false'. Refute it at one input. -/
def fnExactValidDateWrong : ChangeSpec := { name := "fnExactValidDate", vars := ["loop.example/bonddesk/impl.monthDays"], fn := fun _ => fun
  | [d, g1] => { results := [.lit (.bool false)], args := [d], vars := [g1] }
  | _ => none }
def FnExactValidDateWrongFalsely : Prop := fnExactValidDateRow.holds Tryd.pinned (OpenSpec.ofChange fnExactValidDateWrong)

/-- 'laws.FnDaysIn': WHATEVER THE INPUT: true; the input reads as it did. -/
def fnDaysInSpec : ChangeSpec := { name := "fnDaysIn", vars := ["loop.example/bonddesk/impl.monthDays"], fn := fun _ => fun
  | [d, g1] => { results := [.lit (.bool true)], args := [d], vars := [g1] }
  | _ => none }
def fnDaysInRow : OpenClaim := { program := "ytnfcljokgnebmaadoor", sum := "0b4eedc83a98daded3efb49fff96040bc3f2b87abd31c5cf19be36e720db49f6", func := "loop.example/bonddesk/laws.FnDaysIn", spec := "fnDaysIn", named := ["loop.example/bonddesk/impl.monthDays"], apart := false, laid := [("loop.example/bonddesk/impl.monthDays", laid_loop_example_bonddesk_impl_monthDays)] }
def FnDaysInSaid : Prop := fnDaysInRow.holds Tryd.pinned (OpenSpec.ofChange fnDaysInSpec)

/-- ITS FALSE NEIGHBOUR: 'it returns false'. Refute it at one input. -/
def fnDaysInWrong : ChangeSpec := { name := "fnDaysIn", vars := ["loop.example/bonddesk/impl.monthDays"], fn := fun _ => fun
  | [d, g1] => { results := [.lit (.bool false)], args := [d], vars := [g1] }
  | _ => none }
def FnDaysInWrongFalsely : Prop := fnDaysInRow.holds Tryd.pinned (OpenSpec.ofChange fnDaysInWrong)

/-- 'laws.FnDaysInLeap': WHATEVER THE INPUT: true; the input reads as it did. -/
def fnDaysInLeapSpec : ChangeSpec := { name := "fnDaysInLeap", vars := ["loop.example/bonddesk/impl.monthDays"], fn := fun _ => fun
  | [d, g1] => { results := [.lit (.bool true)], args := [d], vars := [g1] }
  | _ => none }
def fnDaysInLeapRow : OpenClaim := { program := "ytnfcljokgnebmaadoor", sum := "0b4eedc83a98daded3efb49fff96040bc3f2b87abd31c5cf19be36e720db49f6", func := "loop.example/bonddesk/laws.FnDaysInLeap", spec := "fnDaysInLeap", named := ["loop.example/bonddesk/impl.monthDays"], apart := false, laid := [("loop.example/bonddesk/impl.monthDays", laid_loop_example_bonddesk_impl_monthDays)] }
def FnDaysInLeapSaid : Prop := fnDaysInLeapRow.holds Tryd.pinned (OpenSpec.ofChange fnDaysInLeapSpec)

/-- ITS FALSE NEIGHBOUR: 'it returns false'. Refute it at one input. -/
def fnDaysInLeapWrong : ChangeSpec := { name := "fnDaysInLeap", vars := ["loop.example/bonddesk/impl.monthDays"], fn := fun _ => fun
  | [d, g1] => { results := [.lit (.bool false)], args := [d], vars := [g1] }
  | _ => none }
def FnDaysInLeapWrongFalsely : Prop := fnDaysInLeapRow.holds Tryd.pinned (OpenSpec.ofChange fnDaysInLeapWrong)

/-- 'laws.FnExactDateOf': WHATEVER THE INPUT: true; the input reads as it did. -/
def fnExactDateOfSpec : ChangeSpec := { name := "fnExactDateOf", vars := ["loop.example/bonddesk/impl.monthDays"], fn := fun _ => fun
  | [d, g1] => { results := [.lit (.bool true)], args := [d], vars := [g1] }
  | _ => none }
def fnExactDateOfRow : OpenClaim := { program := "ytnfcljokgnebmaadoor", sum := "0b4eedc83a98daded3efb49fff96040bc3f2b87abd31c5cf19be36e720db49f6", func := "loop.example/bonddesk/laws.FnExactDateOf", spec := "fnExactDateOf", named := ["loop.example/bonddesk/impl.monthDays"], apart := false, laid := [("loop.example/bonddesk/impl.monthDays", laid_loop_example_bonddesk_impl_monthDays)] }
def FnExactDateOfSaid : Prop := fnExactDateOfRow.holds Tryd.pinned (OpenSpec.ofChange fnExactDateOfSpec)

/-- ITS FALSE NEIGHBOUR: 'it returns false'. Refute it at one input. -/
def fnExactDateOfWrong : ChangeSpec := { name := "fnExactDateOf", vars := ["loop.example/bonddesk/impl.monthDays"], fn := fun _ => fun
  | [d, g1] => { results := [.lit (.bool false)], args := [d], vars := [g1] }
  | _ => none }
def FnExactDateOfWrongFalsely : Prop := fnExactDateOfRow.holds Tryd.pinned (OpenSpec.ofChange fnExactDateOfWrong)

/-- 'laws.FnAdjustDayNear': WHATEVER THE INPUT: true; the input reads as it did. -/
def fnAdjustDayNearSpec : ChangeSpec := { name := "fnAdjustDayNear", vars := ["loop.example/bonddesk/impl.monthDays"], fn := fun _ => fun
  | [d, g1] => { results := [.lit (.bool true)], args := [d], vars := [g1] }
  | _ => none }
def fnAdjustDayNearRow : OpenClaim := { program := "ytnfcljokgnebmaadoor", sum := "0b4eedc83a98daded3efb49fff96040bc3f2b87abd31c5cf19be36e720db49f6", func := "loop.example/bonddesk/laws.FnAdjustDayNear", spec := "fnAdjustDayNear", named := ["loop.example/bonddesk/impl.monthDays"], apart := false, laid := [("loop.example/bonddesk/impl.monthDays", laid_loop_example_bonddesk_impl_monthDays)] }
def FnAdjustDayNearSaid : Prop := fnAdjustDayNearRow.holds Tryd.pinned (OpenSpec.ofChange fnAdjustDayNearSpec)

/-- ITS FALSE NEIGHBOUR: 'it returns false'. Refute it at one input. -/
def fnAdjustDayNearWrong : ChangeSpec := { name := "fnAdjustDayNear", vars := ["loop.example/bonddesk/impl.monthDays"], fn := fun _ => fun
  | [d, g1] => { results := [.lit (.bool false)], args := [d], vars := [g1] }
  | _ => none }
def FnAdjustDayNearWrongFalsely : Prop := fnAdjustDayNearRow.holds Tryd.pinned (OpenSpec.ofChange fnAdjustDayNearWrong)

/-- 'laws.FnExactAdjustDay': WHATEVER THE INPUT: true; the input reads as it did. -/
def fnExactAdjustDaySpec : ChangeSpec := { name := "fnExactAdjustDay", vars := ["loop.example/bonddesk/impl.monthDays"], fn := fun _ => fun
  | [d1, d2, d3, g1] => { results := [.lit (.bool true)], args := [d1, d2, d3], vars := [g1] }
  | _ => none }
def fnExactAdjustDayRow : OpenClaim := { program := "ytnfcljokgnebmaadoor", sum := "0b4eedc83a98daded3efb49fff96040bc3f2b87abd31c5cf19be36e720db49f6", func := "loop.example/bonddesk/laws.FnExactAdjustDay", spec := "fnExactAdjustDay", named := ["loop.example/bonddesk/impl.monthDays"], apart := false, laid := [("loop.example/bonddesk/impl.monthDays", laid_loop_example_bonddesk_impl_monthDays)] }
def FnExactAdjustDaySaid : Prop := fnExactAdjustDayRow.holds Tryd.pinned (OpenSpec.ofChange fnExactAdjustDaySpec)

/-- ITS FALSE NEIGHBOUR: 'it returns false'. Refute it at one input. -/
def fnExactAdjustDayWrong : ChangeSpec := { name := "fnExactAdjustDay", vars := ["loop.example/bonddesk/impl.monthDays"], fn := fun _ => fun
  | [d1, d2, d3, g1] => { results := [.lit (.bool false)], args := [d1, d2, d3], vars := [g1] }
  | _ => none }
def FnExactAdjustDayWrongFalsely : Prop := fnExactAdjustDayRow.holds Tryd.pinned (OpenSpec.ofChange fnExactAdjustDayWrong)

/-- 'laws.FnAddBusiness': WHATEVER THE INPUT: true; the input reads as it did. -/
def fnAddBusinessSpec : ChangeSpec := { name := "fnAddBusiness", vars := ["loop.example/bonddesk/impl.monthDays"], fn := fun _ => fun
  | [d, g1] => { results := [.lit (.bool true)], args := [d], vars := [g1] }
  | _ => none }
def fnAddBusinessRow : OpenClaim := { program := "ytnfcljokgnebmaadoor", sum := "0b4eedc83a98daded3efb49fff96040bc3f2b87abd31c5cf19be36e720db49f6", func := "loop.example/bonddesk/laws.FnAddBusiness", spec := "fnAddBusiness", named := ["loop.example/bonddesk/impl.monthDays"], apart := false, laid := [("loop.example/bonddesk/impl.monthDays", laid_loop_example_bonddesk_impl_monthDays)] }
def FnAddBusinessSaid : Prop := fnAddBusinessRow.holds Tryd.pinned (OpenSpec.ofChange fnAddBusinessSpec)

/-- ITS FALSE NEIGHBOUR: 'it returns false'. Refute it at one input. -/
def fnAddBusinessWrong : ChangeSpec := { name := "fnAddBusiness", vars := ["loop.example/bonddesk/impl.monthDays"], fn := fun _ => fun
  | [d, g1] => { results := [.lit (.bool false)], args := [d], vars := [g1] }
  | _ => none }
def FnAddBusinessWrongFalsely : Prop := fnAddBusinessRow.holds Tryd.pinned (OpenSpec.ofChange fnAddBusinessWrong)

/-- 'laws.FnAdjustDay': WHATEVER THE INPUT: true; the input reads as it did. -/
def fnAdjustDaySpec : ChangeSpec := { name := "fnAdjustDay", vars := ["loop.example/bonddesk/impl.monthDays"], fn := fun _ => fun
  | [d, g1] => { results := [.lit (.bool true)], args := [d], vars := [g1] }
  | _ => none }
def fnAdjustDayRow : OpenClaim := { program := "ytnfcljokgnebmaadoor", sum := "0b4eedc83a98daded3efb49fff96040bc3f2b87abd31c5cf19be36e720db49f6", func := "loop.example/bonddesk/laws.FnAdjustDay", spec := "fnAdjustDay", named := ["loop.example/bonddesk/impl.monthDays"], apart := false, laid := [("loop.example/bonddesk/impl.monthDays", laid_loop_example_bonddesk_impl_monthDays)] }
def FnAdjustDaySaid : Prop := fnAdjustDayRow.holds Tryd.pinned (OpenSpec.ofChange fnAdjustDaySpec)

/-- ITS FALSE NEIGHBOUR: 'it returns false'. Refute it at one input. -/
def fnAdjustDayWrong : ChangeSpec := { name := "fnAdjustDay", vars := ["loop.example/bonddesk/impl.monthDays"], fn := fun _ => fun
  | [d, g1] => { results := [.lit (.bool false)], args := [d], vars := [g1] }
  | _ => none }
def FnAdjustDayWrongFalsely : Prop := fnAdjustDayRow.holds Tryd.pinned (OpenSpec.ofChange fnAdjustDayWrong)

/-- 'laws.FnAdjustDayMonth': WHATEVER THE INPUT: true; the input reads as it did. -/
def fnAdjustDayMonthSpec : ChangeSpec := { name := "fnAdjustDayMonth", vars := ["loop.example/bonddesk/impl.monthDays"], fn := fun _ => fun
  | [d, g1] => { results := [.lit (.bool true)], args := [d], vars := [g1] }
  | _ => none }
def fnAdjustDayMonthRow : OpenClaim := { program := "ytnfcljokgnebmaadoor", sum := "0b4eedc83a98daded3efb49fff96040bc3f2b87abd31c5cf19be36e720db49f6", func := "loop.example/bonddesk/laws.FnAdjustDayMonth", spec := "fnAdjustDayMonth", named := ["loop.example/bonddesk/impl.monthDays"], apart := false, laid := [("loop.example/bonddesk/impl.monthDays", laid_loop_example_bonddesk_impl_monthDays)] }
def FnAdjustDayMonthSaid : Prop := fnAdjustDayMonthRow.holds Tryd.pinned (OpenSpec.ofChange fnAdjustDayMonthSpec)

/-- ITS FALSE NEIGHBOUR: 'it returns false'. Refute it at one input. -/
def fnAdjustDayMonthWrong : ChangeSpec := { name := "fnAdjustDayMonth", vars := ["loop.example/bonddesk/impl.monthDays"], fn := fun _ => fun
  | [d, g1] => { results := [.lit (.bool false)], args := [d], vars := [g1] }
  | _ => none }
def FnAdjustDayMonthWrongFalsely : Prop := fnAdjustDayMonthRow.holds Tryd.pinned (OpenSpec.ofChange fnAdjustDayMonthWrong)

/- THE SECOND FORM. 'bulk': how many values and letters a reading holds, each counted each time it is reached (what is shared counts as often as it is met; a slice's spare places count too). A statement '..UptoSaid' is the law's where the arguments, and the package variables that the reading takes, are together of bulk at most 1048576: NARROWER than '..Said'. Prove '..Said' where nothing that the law and all that it calls make is longer than what came in: it says more and counts as full. Else prove '..UptoSaid'. A law counts once. -/
mutual
def uptoBulk {H : Type} : DataW H → Nat
  | .lit (.string bytes) => bytes.length + 1
  | .lit _ => 1
  | .nil => 1
  | .ptr d => uptoBulk d + 1
  | .slice elems spare => uptoBulkAll elems + uptoBulkAll spare + 1
  | .agg parts => uptoBulkAll parts + 1
  | .iface _ d => uptoBulk d + 1
  | .map entries => uptoBulkEntries entries + 1
  | .held _ => 1
def uptoBulkAll {H : Type} : List (DataW H) → Nat
  | [] => 0
  | d :: r => uptoBulk d + uptoBulkAll r
def uptoBulkEntries {H : Type} : List (Lit × DataW H) → Nat
  | [] => 0
  | x :: r => uptoBulkEntry x + uptoBulkEntries r
def uptoBulkEntry {H : Type} : Lit × DataW H → Nat
  | (.string bytes, d) => bytes.length + uptoBulk d + 1
  | (_, d) => uptoBulk d + 1
 end
def uptoSmall : (H : Type) → List (DataW H) → Bool := fun _ ds => decide (uptoBulkAll ds ≤ 1048576)
def OpenSpec.upto (s : _root_.Go.ChangeSpec) : _root_.Go.OpenSpec := { _root_.Go.OpenSpec.ofChange s with cond := some uptoSmall }

/-- 'laws.FnExactDaysIn', WHERE WHAT IT READS IS OF BULK AT MOST 1048576: true; the input reads as it did. -/
def fnExactDaysInUptoRow : OpenClaim := { program := "ytnfcljokgnebmaadoor", sum := "0b4eedc83a98daded3efb49fff96040bc3f2b87abd31c5cf19be36e720db49f6", func := "loop.example/bonddesk/laws.FnExactDaysIn", spec := "fnExactDaysIn", named := ["loop.example/bonddesk/impl.monthDays"], apart := false, laid := [("loop.example/bonddesk/impl.monthDays", laid_loop_example_bonddesk_impl_monthDays)], narrowed := true }
def FnExactDaysInUptoSaid : Prop := fnExactDaysInUptoRow.holds Tryd.pinned (OpenSpec.upto fnExactDaysInSpec)

/-- 'laws.FnExactValidDate', WHERE WHAT IT READS IS OF BULK AT MOST 1048576: true; the input reads as it did. -/
def fnExactValidDateUptoRow : OpenClaim := { program := "ytnfcljokgnebmaadoor", sum := "0b4eedc83a98daded3efb49fff96040bc3f2b87abd31c5cf19be36e720db49f6", func := "loop.example/bonddesk/laws.FnExactValidDate", spec := "fnExactValidDate", named := ["loop.example/bonddesk/impl.monthDays"], apart := false, laid := [("loop.example/bonddesk/impl.monthDays", laid_loop_example_bonddesk_impl_monthDays)], narrowed := true }
def FnExactValidDateUptoSaid : Prop := fnExactValidDateUptoRow.holds Tryd.pinned (OpenSpec.upto fnExactValidDateSpec)

/-- 'laws.FnDaysIn', WHERE WHAT IT READS IS OF BULK AT MOST 1048576: true; the input reads as it did. -/
def fnDaysInUptoRow : OpenClaim := { program := "ytnfcljokgnebmaadoor", sum := "0b4eedc83a98daded3efb49fff96040bc3f2b87abd31c5cf19be36e720db49f6", func := "loop.example/bonddesk/laws.FnDaysIn", spec := "fnDaysIn", named := ["loop.example/bonddesk/impl.monthDays"], apart := false, laid := [("loop.example/bonddesk/impl.monthDays", laid_loop_example_bonddesk_impl_monthDays)], narrowed := true }
def FnDaysInUptoSaid : Prop := fnDaysInUptoRow.holds Tryd.pinned (OpenSpec.upto fnDaysInSpec)

/-- 'laws.FnDaysInLeap', WHERE WHAT IT READS IS OF BULK AT MOST 1048576: true; the input reads as it did. -/
def fnDaysInLeapUptoRow : OpenClaim := { program := "ytnfcljokgnebmaadoor", sum := "0b4eedc83a98daded3efb49fff96040bc3f2b87abd31c5cf19be36e720db49f6", func := "loop.example/bonddesk/laws.FnDaysInLeap", spec := "fnDaysInLeap", named := ["loop.example/bonddesk/impl.monthDays"], apart := false, laid := [("loop.example/bonddesk/impl.monthDays", laid_loop_example_bonddesk_impl_monthDays)], narrowed := true }
def FnDaysInLeapUptoSaid : Prop := fnDaysInLeapUptoRow.holds Tryd.pinned (OpenSpec.upto fnDaysInLeapSpec)

/-- 'laws.FnExactDateOf', WHERE WHAT IT READS IS OF BULK AT MOST 1048576: true; the input reads as it did. -/
def fnExactDateOfUptoRow : OpenClaim := { program := "ytnfcljokgnebmaadoor", sum := "0b4eedc83a98daded3efb49fff96040bc3f2b87abd31c5cf19be36e720db49f6", func := "loop.example/bonddesk/laws.FnExactDateOf", spec := "fnExactDateOf", named := ["loop.example/bonddesk/impl.monthDays"], apart := false, laid := [("loop.example/bonddesk/impl.monthDays", laid_loop_example_bonddesk_impl_monthDays)], narrowed := true }
def FnExactDateOfUptoSaid : Prop := fnExactDateOfUptoRow.holds Tryd.pinned (OpenSpec.upto fnExactDateOfSpec)

/-- 'laws.FnAdjustDayNear', WHERE WHAT IT READS IS OF BULK AT MOST 1048576: true; the input reads as it did. -/
def fnAdjustDayNearUptoRow : OpenClaim := { program := "ytnfcljokgnebmaadoor", sum := "0b4eedc83a98daded3efb49fff96040bc3f2b87abd31c5cf19be36e720db49f6", func := "loop.example/bonddesk/laws.FnAdjustDayNear", spec := "fnAdjustDayNear", named := ["loop.example/bonddesk/impl.monthDays"], apart := false, laid := [("loop.example/bonddesk/impl.monthDays", laid_loop_example_bonddesk_impl_monthDays)], narrowed := true }
def FnAdjustDayNearUptoSaid : Prop := fnAdjustDayNearUptoRow.holds Tryd.pinned (OpenSpec.upto fnAdjustDayNearSpec)

/-- 'laws.FnExactAdjustDay', WHERE WHAT IT READS IS OF BULK AT MOST 1048576: true; the input reads as it did. -/
def fnExactAdjustDayUptoRow : OpenClaim := { program := "ytnfcljokgnebmaadoor", sum := "0b4eedc83a98daded3efb49fff96040bc3f2b87abd31c5cf19be36e720db49f6", func := "loop.example/bonddesk/laws.FnExactAdjustDay", spec := "fnExactAdjustDay", named := ["loop.example/bonddesk/impl.monthDays"], apart := false, laid := [("loop.example/bonddesk/impl.monthDays", laid_loop_example_bonddesk_impl_monthDays)], narrowed := true }
def FnExactAdjustDayUptoSaid : Prop := fnExactAdjustDayUptoRow.holds Tryd.pinned (OpenSpec.upto fnExactAdjustDaySpec)

/-- 'laws.FnAddBusiness', WHERE WHAT IT READS IS OF BULK AT MOST 1048576: true; the input reads as it did. -/
def fnAddBusinessUptoRow : OpenClaim := { program := "ytnfcljokgnebmaadoor", sum := "0b4eedc83a98daded3efb49fff96040bc3f2b87abd31c5cf19be36e720db49f6", func := "loop.example/bonddesk/laws.FnAddBusiness", spec := "fnAddBusiness", named := ["loop.example/bonddesk/impl.monthDays"], apart := false, laid := [("loop.example/bonddesk/impl.monthDays", laid_loop_example_bonddesk_impl_monthDays)], narrowed := true }
def FnAddBusinessUptoSaid : Prop := fnAddBusinessUptoRow.holds Tryd.pinned (OpenSpec.upto fnAddBusinessSpec)

/-- 'laws.FnAdjustDay', WHERE WHAT IT READS IS OF BULK AT MOST 1048576: true; the input reads as it did. -/
def fnAdjustDayUptoRow : OpenClaim := { program := "ytnfcljokgnebmaadoor", sum := "0b4eedc83a98daded3efb49fff96040bc3f2b87abd31c5cf19be36e720db49f6", func := "loop.example/bonddesk/laws.FnAdjustDay", spec := "fnAdjustDay", named := ["loop.example/bonddesk/impl.monthDays"], apart := false, laid := [("loop.example/bonddesk/impl.monthDays", laid_loop_example_bonddesk_impl_monthDays)], narrowed := true }
def FnAdjustDayUptoSaid : Prop := fnAdjustDayUptoRow.holds Tryd.pinned (OpenSpec.upto fnAdjustDaySpec)

/-- 'laws.FnAdjustDayMonth', WHERE WHAT IT READS IS OF BULK AT MOST 1048576: true; the input reads as it did. -/
def fnAdjustDayMonthUptoRow : OpenClaim := { program := "ytnfcljokgnebmaadoor", sum := "0b4eedc83a98daded3efb49fff96040bc3f2b87abd31c5cf19be36e720db49f6", func := "loop.example/bonddesk/laws.FnAdjustDayMonth", spec := "fnAdjustDayMonth", named := ["loop.example/bonddesk/impl.monthDays"], apart := false, laid := [("loop.example/bonddesk/impl.monthDays", laid_loop_example_bonddesk_impl_monthDays)], narrowed := true }
def FnAdjustDayMonthUptoSaid : Prop := fnAdjustDayMonthUptoRow.holds Tryd.pinned (OpenSpec.upto fnAdjustDayMonthSpec)

end Rows
end Go.Proofs.YtnfcljokgnebmaaDoor
