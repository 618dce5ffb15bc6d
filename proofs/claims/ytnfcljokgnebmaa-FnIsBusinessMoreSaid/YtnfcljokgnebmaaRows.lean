/-
  No cell of these rows narrows 'for every input' (looked for: loops, veiled, ifaces, maps, wideKeys, modest, calm, conditions, laid).
  DERIVED. THE GIVEN ROWS OF THIS SEAT. 13 by the template 'for every input the law returns true; each argument reads behind the call as it read before'; 0 by the template 'total and deterministic' (their statements: YtnfcljokgnebmaaTotals.lean).
  GIVEN WITH THE SEED: the statements are not yours to turn. If you find one false, say at which input.
  Laid BY PROGRAM, IN A SANDBOX (cutbox-rows.mjs): the forced cells as the released guide's own fill.sh prints them over the translation 1e2cc6204b2d97e4… (all of the seat's roots in one cut). By AI agents, Wed Nov 11 2026. No macro, syntax, notation, axiom, sorry.
-/
import Derived.Test.YtnfcljokgnebmaaChecked
import GoSem.Claim
import GoSem.ClaimJoined
import GoSem.ClaimMapViews
import Derived.JoinedTies
import Derived.KernelRfl
namespace Go.Proofs.Ytnfcljokgnebmaa
/- THE CELL 'sum', in the pinned program and in every row, IS THE sha256 OF THE DUMP (.gsa) THAT YtnfcljokgnebmaaProg.lean LOADS. Nothing in Lean hashes anything: it is a label: what it is worth is what the hold of that sum in a sandbox is worth. -/
noncomputable def Try.pinned : Pinned := { name := "ytnfcljokgnebmaa", sum := "1e2cc6204b2d97e4d24749f80635b4bcce5ca1c8137730c58cef4a19576b0a16", checked := Try.checked }
namespace Rows
def none {H : Type} : Left H := { results := [], args := [] }

/-- 'laws.FnExactConstants': WHATEVER THE INPUT: true; the input reads as it did. -/
def fnExactConstantsSpec : ChangeSpec := { name := "fnExactConstants", fn := fun _ => fun
  | [] => { results := [.lit (.bool true)], args := [] }
  | _ => none }
def fnExactConstantsRow : OpenClaim := { program := "ytnfcljokgnebmaa", sum := "1e2cc6204b2d97e4d24749f80635b4bcce5ca1c8137730c58cef4a19576b0a16", func := "loop.example/bonddesk/laws.FnExactConstants", spec := "fnExactConstants", apart := false }
def FnExactConstantsSaid : Prop := fnExactConstantsRow.holds Try.pinned (OpenSpec.ofChange fnExactConstantsSpec)

/-- ITS FALSE NEIGHBOUR: 'it returns false'. Refute it at one input. -/
def fnExactConstantsWrong : ChangeSpec := { name := "fnExactConstants", fn := fun _ => fun
  | [] => { results := [.lit (.bool false)], args := [] }
  | _ => none }
def FnExactConstantsWrongFalsely : Prop := fnExactConstantsRow.holds Try.pinned (OpenSpec.ofChange fnExactConstantsWrong)

/-- 'laws.FnExactWeekdayOf': WHATEVER THE INPUT: true; the input reads as it did. -/
def fnExactWeekdayOfSpec : ChangeSpec := { name := "fnExactWeekdayOf", fn := fun _ => fun
  | [d] => { results := [.lit (.bool true)], args := [d] }
  | _ => none }
def fnExactWeekdayOfRow : OpenClaim := { program := "ytnfcljokgnebmaa", sum := "1e2cc6204b2d97e4d24749f80635b4bcce5ca1c8137730c58cef4a19576b0a16", func := "loop.example/bonddesk/laws.FnExactWeekdayOf", spec := "fnExactWeekdayOf", apart := false }
def FnExactWeekdayOfSaid : Prop := fnExactWeekdayOfRow.holds Try.pinned (OpenSpec.ofChange fnExactWeekdayOfSpec)

/-- ITS FALSE NEIGHBOUR: 'it returns false'. Refute it at one input. -/
def fnExactWeekdayOfWrong : ChangeSpec := { name := "fnExactWeekdayOf", fn := fun _ => fun
  | [d] => { results := [.lit (.bool false)], args := [d] }
  | _ => none }
def FnExactWeekdayOfWrongFalsely : Prop := fnExactWeekdayOfRow.holds Try.pinned (OpenSpec.ofChange fnExactWeekdayOfWrong)

/-- 'laws.FnWeekdayOf': WHATEVER THE INPUT: true; the input reads as it did. -/
def fnWeekdayOfSpec : ChangeSpec := { name := "fnWeekdayOf", fn := fun _ => fun
  | [d] => { results := [.lit (.bool true)], args := [d] }
  | _ => none }
def fnWeekdayOfRow : OpenClaim := { program := "ytnfcljokgnebmaa", sum := "1e2cc6204b2d97e4d24749f80635b4bcce5ca1c8137730c58cef4a19576b0a16", func := "loop.example/bonddesk/laws.FnWeekdayOf", spec := "fnWeekdayOf", apart := false }
def FnWeekdayOfSaid : Prop := fnWeekdayOfRow.holds Try.pinned (OpenSpec.ofChange fnWeekdayOfSpec)

/-- ITS FALSE NEIGHBOUR: 'it returns false'. Refute it at one input. -/
def fnWeekdayOfWrong : ChangeSpec := { name := "fnWeekdayOf", fn := fun _ => fun
  | [d] => { results := [.lit (.bool false)], args := [d] }
  | _ => none }
def FnWeekdayOfWrongFalsely : Prop := fnWeekdayOfRow.holds Try.pinned (OpenSpec.ofChange fnWeekdayOfWrong)

/-- 'laws.FnExactPeriodAt': WHATEVER THE INPUT: true; the input reads as it did. -/
def fnExactPeriodAtSpec : ChangeSpec := { name := "fnExactPeriodAt", fn := fun _ => fun
  | [d1, d2] => { results := [.lit (.bool true)], args := [d1, d2] }
  | _ => none }
def fnExactPeriodAtRow : OpenClaim := { program := "ytnfcljokgnebmaa", sum := "1e2cc6204b2d97e4d24749f80635b4bcce5ca1c8137730c58cef4a19576b0a16", func := "loop.example/bonddesk/laws.FnExactPeriodAt", spec := "fnExactPeriodAt", unfollowed := true, recurses := true, apart := false }
def FnExactPeriodAtSaid : Prop := fnExactPeriodAtRow.holds Try.pinned (OpenSpec.ofChange fnExactPeriodAtSpec)

/-- ITS FALSE NEIGHBOUR: 'it returns false'. Refute it at one input. -/
def fnExactPeriodAtWrong : ChangeSpec := { name := "fnExactPeriodAt", fn := fun _ => fun
  | [d1, d2] => { results := [.lit (.bool false)], args := [d1, d2] }
  | _ => none }
def FnExactPeriodAtWrongFalsely : Prop := fnExactPeriodAtRow.holds Try.pinned (OpenSpec.ofChange fnExactPeriodAtWrong)

/-- 'laws.FnExactIsBusiness': WHATEVER THE INPUT: true; the input reads as it did. -/
def fnExactIsBusinessSpec : ChangeSpec := { name := "fnExactIsBusiness", fn := fun _ => fun
  | [d1, d2] => { results := [.lit (.bool true)], args := [d1, d2] }
  | _ => none }
def fnExactIsBusinessRow : OpenClaim := { program := "ytnfcljokgnebmaa", sum := "1e2cc6204b2d97e4d24749f80635b4bcce5ca1c8137730c58cef4a19576b0a16", func := "loop.example/bonddesk/laws.FnExactIsBusiness", spec := "fnExactIsBusiness", apart := false }
def FnExactIsBusinessSaid : Prop := fnExactIsBusinessRow.holds Try.pinned (OpenSpec.ofChange fnExactIsBusinessSpec)

/-- ITS FALSE NEIGHBOUR: 'it returns false'. Refute it at one input. -/
def fnExactIsBusinessWrong : ChangeSpec := { name := "fnExactIsBusiness", fn := fun _ => fun
  | [d1, d2] => { results := [.lit (.bool false)], args := [d1, d2] }
  | _ => none }
def FnExactIsBusinessWrongFalsely : Prop := fnExactIsBusinessRow.holds Try.pinned (OpenSpec.ofChange fnExactIsBusinessWrong)

/-- 'laws.FnExactBusinessBetween': WHATEVER THE INPUT: true; the input reads as it did. -/
def fnExactBusinessBetweenSpec : ChangeSpec := { name := "fnExactBusinessBetween", fn := fun _ => fun
  | [d1, d2, d3] => { results := [.lit (.bool true)], args := [d1, d2, d3] }
  | _ => none }
def fnExactBusinessBetweenRow : OpenClaim := { program := "ytnfcljokgnebmaa", sum := "1e2cc6204b2d97e4d24749f80635b4bcce5ca1c8137730c58cef4a19576b0a16", func := "loop.example/bonddesk/laws.FnExactBusinessBetween", spec := "fnExactBusinessBetween", apart := false }
def FnExactBusinessBetweenSaid : Prop := fnExactBusinessBetweenRow.holds Try.pinned (OpenSpec.ofChange fnExactBusinessBetweenSpec)

/-- ITS FALSE NEIGHBOUR: 'it returns false'. Refute it at one input. -/
def fnExactBusinessBetweenWrong : ChangeSpec := { name := "fnExactBusinessBetween", fn := fun _ => fun
  | [d1, d2, d3] => { results := [.lit (.bool false)], args := [d1, d2, d3] }
  | _ => none }
def FnExactBusinessBetweenWrongFalsely : Prop := fnExactBusinessBetweenRow.holds Try.pinned (OpenSpec.ofChange fnExactBusinessBetweenWrong)

/-- 'laws.FnExactAddBusiness': WHATEVER THE INPUT: true; the input reads as it did. -/
def fnExactAddBusinessSpec : ChangeSpec := { name := "fnExactAddBusiness", fn := fun _ => fun
  | [d1, d2, d3] => { results := [.lit (.bool true)], args := [d1, d2, d3] }
  | _ => none }
def fnExactAddBusinessRow : OpenClaim := { program := "ytnfcljokgnebmaa", sum := "1e2cc6204b2d97e4d24749f80635b4bcce5ca1c8137730c58cef4a19576b0a16", func := "loop.example/bonddesk/laws.FnExactAddBusiness", spec := "fnExactAddBusiness", apart := false }
def FnExactAddBusinessSaid : Prop := fnExactAddBusinessRow.holds Try.pinned (OpenSpec.ofChange fnExactAddBusinessSpec)

/-- ITS FALSE NEIGHBOUR: 'it returns false'. Refute it at one input. -/
def fnExactAddBusinessWrong : ChangeSpec := { name := "fnExactAddBusiness", fn := fun _ => fun
  | [d1, d2, d3] => { results := [.lit (.bool false)], args := [d1, d2, d3] }
  | _ => none }
def FnExactAddBusinessWrongFalsely : Prop := fnExactAddBusinessRow.holds Try.pinned (OpenSpec.ofChange fnExactAddBusinessWrong)

/-- 'laws.FnIsBusinessMore': WHATEVER THE INPUT: true; the input reads as it did. -/
def fnIsBusinessMoreSpec : ChangeSpec := { name := "fnIsBusinessMore", fn := fun _ => fun
  | [d] => { results := [.lit (.bool true)], args := [d] }
  | _ => none }
def fnIsBusinessMoreRow : OpenClaim := { program := "ytnfcljokgnebmaa", sum := "1e2cc6204b2d97e4d24749f80635b4bcce5ca1c8137730c58cef4a19576b0a16", func := "loop.example/bonddesk/laws.FnIsBusinessMore", spec := "fnIsBusinessMore", apart := false }
def FnIsBusinessMoreSaid : Prop := fnIsBusinessMoreRow.holds Try.pinned (OpenSpec.ofChange fnIsBusinessMoreSpec)

/-- ITS FALSE NEIGHBOUR: 'it returns false'. Refute it at one input. -/
def fnIsBusinessMoreWrong : ChangeSpec := { name := "fnIsBusinessMore", fn := fun _ => fun
  | [d] => { results := [.lit (.bool false)], args := [d] }
  | _ => none }
def FnIsBusinessMoreWrongFalsely : Prop := fnIsBusinessMoreRow.holds Try.pinned (OpenSpec.ofChange fnIsBusinessMoreWrong)

/-- 'laws.FnIsBusiness': WHATEVER THE INPUT: true; the input reads as it did. -/
def fnIsBusinessSpec : ChangeSpec := { name := "fnIsBusiness", fn := fun _ => fun
  | [d] => { results := [.lit (.bool true)], args := [d] }
  | _ => none }
def fnIsBusinessRow : OpenClaim := { program := "ytnfcljokgnebmaa", sum := "1e2cc6204b2d97e4d24749f80635b4bcce5ca1c8137730c58cef4a19576b0a16", func := "loop.example/bonddesk/laws.FnIsBusiness", spec := "fnIsBusiness", apart := false }
def FnIsBusinessSaid : Prop := fnIsBusinessRow.holds Try.pinned (OpenSpec.ofChange fnIsBusinessSpec)

/-- ITS FALSE NEIGHBOUR: 'it returns false'. Refute it at one input. -/
def fnIsBusinessWrong : ChangeSpec := { name := "fnIsBusiness", fn := fun _ => fun
  | [d] => { results := [.lit (.bool false)], args := [d] }
  | _ => none }
def FnIsBusinessWrongFalsely : Prop := fnIsBusinessRow.holds Try.pinned (OpenSpec.ofChange fnIsBusinessWrong)

/-- 'laws.FnBusinessBetween': WHATEVER THE INPUT: true; the input reads as it did. -/
def fnBusinessBetweenSpec : ChangeSpec := { name := "fnBusinessBetween", fn := fun _ => fun
  | [d] => { results := [.lit (.bool true)], args := [d] }
  | _ => none }
def fnBusinessBetweenRow : OpenClaim := { program := "ytnfcljokgnebmaa", sum := "1e2cc6204b2d97e4d24749f80635b4bcce5ca1c8137730c58cef4a19576b0a16", func := "loop.example/bonddesk/laws.FnBusinessBetween", spec := "fnBusinessBetween", apart := false }
def FnBusinessBetweenSaid : Prop := fnBusinessBetweenRow.holds Try.pinned (OpenSpec.ofChange fnBusinessBetweenSpec)

/-- ITS FALSE NEIGHBOUR: 'it returns false'. Refute it at one input. -/
def fnBusinessBetweenWrong : ChangeSpec := { name := "fnBusinessBetween", fn := fun _ => fun
  | [d] => { results := [.lit (.bool false)], args := [d] }
  | _ => none }
def FnBusinessBetweenWrongFalsely : Prop := fnBusinessBetweenRow.holds Try.pinned (OpenSpec.ofChange fnBusinessBetweenWrong)

/-- 'laws.FnBusinessWeek': WHATEVER THE INPUT: true; the input reads as it did. -/
def fnBusinessWeekSpec : ChangeSpec := { name := "fnBusinessWeek", fn := fun _ => fun
  | [d] => { results := [.lit (.bool true)], args := [d] }
  | _ => none }
def fnBusinessWeekRow : OpenClaim := { program := "ytnfcljokgnebmaa", sum := "1e2cc6204b2d97e4d24749f80635b4bcce5ca1c8137730c58cef4a19576b0a16", func := "loop.example/bonddesk/laws.FnBusinessWeek", spec := "fnBusinessWeek", apart := false }
def FnBusinessWeekSaid : Prop := fnBusinessWeekRow.holds Try.pinned (OpenSpec.ofChange fnBusinessWeekSpec)

/-- ITS FALSE NEIGHBOUR: 'it returns false'. Refute it at one input. -/
def fnBusinessWeekWrong : ChangeSpec := { name := "fnBusinessWeek", fn := fun _ => fun
  | [d] => { results := [.lit (.bool false)], args := [d] }
  | _ => none }
def FnBusinessWeekWrongFalsely : Prop := fnBusinessWeekRow.holds Try.pinned (OpenSpec.ofChange fnBusinessWeekWrong)

/-- 'laws.FnPeriodAt': WHATEVER THE INPUT: true; the input reads as it did. -/
def fnPeriodAtSpec : ChangeSpec := { name := "fnPeriodAt", fn := fun _ => fun
  | [d] => { results := [.lit (.bool true)], args := [d] }
  | _ => none }
def fnPeriodAtRow : OpenClaim := { program := "ytnfcljokgnebmaa", sum := "1e2cc6204b2d97e4d24749f80635b4bcce5ca1c8137730c58cef4a19576b0a16", func := "loop.example/bonddesk/laws.FnPeriodAt", spec := "fnPeriodAt", unfollowed := true, recurses := true, apart := false }
def FnPeriodAtSaid : Prop := fnPeriodAtRow.holds Try.pinned (OpenSpec.ofChange fnPeriodAtSpec)

/-- ITS FALSE NEIGHBOUR: 'it returns false'. Refute it at one input. -/
def fnPeriodAtWrong : ChangeSpec := { name := "fnPeriodAt", fn := fun _ => fun
  | [d] => { results := [.lit (.bool false)], args := [d] }
  | _ => none }
def FnPeriodAtWrongFalsely : Prop := fnPeriodAtRow.holds Try.pinned (OpenSpec.ofChange fnPeriodAtWrong)

/-- 'laws.FnAddBusinessCount': WHATEVER THE INPUT: true; the input reads as it did. -/
def fnAddBusinessCountSpec : ChangeSpec := { name := "fnAddBusinessCount", fn := fun _ => fun
  | [d] => { results := [.lit (.bool true)], args := [d] }
  | _ => none }
def fnAddBusinessCountRow : OpenClaim := { program := "ytnfcljokgnebmaa", sum := "1e2cc6204b2d97e4d24749f80635b4bcce5ca1c8137730c58cef4a19576b0a16", func := "loop.example/bonddesk/laws.FnAddBusinessCount", spec := "fnAddBusinessCount", apart := false }
def FnAddBusinessCountSaid : Prop := fnAddBusinessCountRow.holds Try.pinned (OpenSpec.ofChange fnAddBusinessCountSpec)

/-- ITS FALSE NEIGHBOUR: 'it returns false'. Refute it at one input. -/
def fnAddBusinessCountWrong : ChangeSpec := { name := "fnAddBusinessCount", fn := fun _ => fun
  | [d] => { results := [.lit (.bool false)], args := [d] }
  | _ => none }
def FnAddBusinessCountWrongFalsely : Prop := fnAddBusinessCountRow.holds Try.pinned (OpenSpec.ofChange fnAddBusinessCountWrong)

/- THE SECOND FORM. 'bulk': how many values and letters a reading holds, each counted each time it is reached (what is shared counts as often as it is met; a slice's spare places count too). A statement '..UptoSaid' is the law's where the arguments, and the package variables that the reading takes, are together of bulk at most 1048576: NARROWER than '..Said'. Prove '..Said' where nothing that the law and all that it calls make is longer than what came in: it says more and counts as full. Else prove '..UptoSaid'. A law counts once. -/
mutual
def uptoBulk {H : Type} : DataW H → Nat
  | .lit (.string bytes) => bytes.length + 1
  | .lit _ => 1
  | .nil => 1
  | .ptr d => uptoBulk d + 1
  | .slice elems spare => uptoBulkAll elems + uptoBulkAll spare + 1
  | .agg parts => uptoBulkAll parts + 1
  | .iface _ d => uptoBulk d + 1
  | .map entries => uptoBulkEntries entries + 1
  | .held _ => 1
def uptoBulkAll {H : Type} : List (DataW H) → Nat
  | [] => 0
  | d :: r => uptoBulk d + uptoBulkAll r
def uptoBulkEntries {H : Type} : List (Lit × DataW H) → Nat
  | [] => 0
  | x :: r => uptoBulkEntry x + uptoBulkEntries r
def uptoBulkEntry {H : Type} : Lit × DataW H → Nat
  | (.string bytes, d) => bytes.length + uptoBulk d + 1
  | (_, d) => uptoBulk d + 1
 end
def uptoSmall : (H : Type) → List (DataW H) → Bool := fun _ ds => decide (uptoBulkAll ds ≤ 1048576)
def OpenSpec.upto (s : _root_.Go.ChangeSpec) : _root_.Go.OpenSpec := { _root_.Go.OpenSpec.ofChange s with cond := some uptoSmall }

/-- 'laws.FnExactConstants', WHERE WHAT IT READS IS OF BULK AT MOST 1048576: true; the input reads as it did. -/
def fnExactConstantsUptoRow : OpenClaim := { program := "ytnfcljokgnebmaa", sum := "1e2cc6204b2d97e4d24749f80635b4bcce5ca1c8137730c58cef4a19576b0a16", func := "loop.example/bonddesk/laws.FnExactConstants", spec := "fnExactConstants", apart := false, narrowed := true }
def FnExactConstantsUptoSaid : Prop := fnExactConstantsUptoRow.holds Try.pinned (OpenSpec.upto fnExactConstantsSpec)

/-- 'laws.FnExactWeekdayOf', WHERE WHAT IT READS IS OF BULK AT MOST 1048576: true; the input reads as it did. -/
def fnExactWeekdayOfUptoRow : OpenClaim := { program := "ytnfcljokgnebmaa", sum := "1e2cc6204b2d97e4d24749f80635b4bcce5ca1c8137730c58cef4a19576b0a16", func := "loop.example/bonddesk/laws.FnExactWeekdayOf", spec := "fnExactWeekdayOf", apart := false, narrowed := true }
def FnExactWeekdayOfUptoSaid : Prop := fnExactWeekdayOfUptoRow.holds Try.pinned (OpenSpec.upto fnExactWeekdayOfSpec)

/-- 'laws.FnWeekdayOf', WHERE WHAT IT READS IS OF BULK AT MOST 1048576: true; the input reads as it did. -/
def fnWeekdayOfUptoRow : OpenClaim := { program := "ytnfcljokgnebmaa", sum := "1e2cc6204b2d97e4d24749f80635b4bcce5ca1c8137730c58cef4a19576b0a16", func := "loop.example/bonddesk/laws.FnWeekdayOf", spec := "fnWeekdayOf", apart := false, narrowed := true }
def FnWeekdayOfUptoSaid : Prop := fnWeekdayOfUptoRow.holds Try.pinned (OpenSpec.upto fnWeekdayOfSpec)

/-- 'laws.FnExactPeriodAt', WHERE WHAT IT READS IS OF BULK AT MOST 1048576: true; the input reads as it did. -/
def fnExactPeriodAtUptoRow : OpenClaim := { program := "ytnfcljokgnebmaa", sum := "1e2cc6204b2d97e4d24749f80635b4bcce5ca1c8137730c58cef4a19576b0a16", func := "loop.example/bonddesk/laws.FnExactPeriodAt", spec := "fnExactPeriodAt", unfollowed := true, recurses := true, apart := false, narrowed := true }
def FnExactPeriodAtUptoSaid : Prop := fnExactPeriodAtUptoRow.holds Try.pinned (OpenSpec.upto fnExactPeriodAtSpec)

/-- 'laws.FnExactIsBusiness', WHERE WHAT IT READS IS OF BULK AT MOST 1048576: true; the input reads as it did. -/
def fnExactIsBusinessUptoRow : OpenClaim := { program := "ytnfcljokgnebmaa", sum := "1e2cc6204b2d97e4d24749f80635b4bcce5ca1c8137730c58cef4a19576b0a16", func := "loop.example/bonddesk/laws.FnExactIsBusiness", spec := "fnExactIsBusiness", apart := false, narrowed := true }
def FnExactIsBusinessUptoSaid : Prop := fnExactIsBusinessUptoRow.holds Try.pinned (OpenSpec.upto fnExactIsBusinessSpec)

/-- 'laws.FnExactBusinessBetween', WHERE WHAT IT READS IS OF BULK AT MOST 1048576: true; the input reads as it did. -/
def fnExactBusinessBetweenUptoRow : OpenClaim := { program := "ytnfcljokgnebmaa", sum := "1e2cc6204b2d97e4d24749f80635b4bcce5ca1c8137730c58cef4a19576b0a16", func := "loop.example/bonddesk/laws.FnExactBusinessBetween", spec := "fnExactBusinessBetween", apart := false, narrowed := true }
def FnExactBusinessBetweenUptoSaid : Prop := fnExactBusinessBetweenUptoRow.holds Try.pinned (OpenSpec.upto fnExactBusinessBetweenSpec)

/-- 'laws.FnExactAddBusiness', WHERE WHAT IT READS IS OF BULK AT MOST 1048576: true; the input reads as it did. -/
def fnExactAddBusinessUptoRow : OpenClaim := { program := "ytnfcljokgnebmaa", sum := "1e2cc6204b2d97e4d24749f80635b4bcce5ca1c8137730c58cef4a19576b0a16", func := "loop.example/bonddesk/laws.FnExactAddBusiness", spec := "fnExactAddBusiness", apart := false, narrowed := true }
def FnExactAddBusinessUptoSaid : Prop := fnExactAddBusinessUptoRow.holds Try.pinned (OpenSpec.upto fnExactAddBusinessSpec)

/-- 'laws.FnIsBusinessMore', WHERE WHAT IT READS IS OF BULK AT MOST 1048576: true; the input reads as it did. -/
def fnIsBusinessMoreUptoRow : OpenClaim := { program := "ytnfcljokgnebmaa", sum := "1e2cc6204b2d97e4d24749f80635b4bcce5ca1c8137730c58cef4a19576b0a16", func := "loop.example/bonddesk/laws.FnIsBusinessMore", spec := "fnIsBusinessMore", apart := false, narrowed := true }
def FnIsBusinessMoreUptoSaid : Prop := fnIsBusinessMoreUptoRow.holds Try.pinned (OpenSpec.upto fnIsBusinessMoreSpec)

/-- 'laws.FnIsBusiness', WHERE WHAT IT READS IS OF BULK AT MOST 1048576: true; the input reads as it did. -/
def fnIsBusinessUptoRow : OpenClaim := { program := "ytnfcljokgnebmaa", sum := "1e2cc6204b2d97e4d24749f80635b4bcce5ca1c8137730c58cef4a19576b0a16", func := "loop.example/bonddesk/laws.FnIsBusiness", spec := "fnIsBusiness", apart := false, narrowed := true }
def FnIsBusinessUptoSaid : Prop := fnIsBusinessUptoRow.holds Try.pinned (OpenSpec.upto fnIsBusinessSpec)

/-- 'laws.FnBusinessBetween', WHERE WHAT IT READS IS OF BULK AT MOST 1048576: true; the input reads as it did. -/
def fnBusinessBetweenUptoRow : OpenClaim := { program := "ytnfcljokgnebmaa", sum := "1e2cc6204b2d97e4d24749f80635b4bcce5ca1c8137730c58cef4a19576b0a16", func := "loop.example/bonddesk/laws.FnBusinessBetween", spec := "fnBusinessBetween", apart := false, narrowed := true }
def FnBusinessBetweenUptoSaid : Prop := fnBusinessBetweenUptoRow.holds Try.pinned (OpenSpec.upto fnBusinessBetweenSpec)

/-- 'laws.FnBusinessWeek', WHERE WHAT IT READS IS OF BULK AT MOST 1048576: true; the input reads as it did. -/
def fnBusinessWeekUptoRow : OpenClaim := { program := "ytnfcljokgnebmaa", sum := "1e2cc6204b2d97e4d24749f80635b4bcce5ca1c8137730c58cef4a19576b0a16", func := "loop.example/bonddesk/laws.FnBusinessWeek", spec := "fnBusinessWeek", apart := false, narrowed := true }
def FnBusinessWeekUptoSaid : Prop := fnBusinessWeekUptoRow.holds Try.pinned (OpenSpec.upto fnBusinessWeekSpec)

/-- 'laws.FnPeriodAt', WHERE WHAT IT READS IS OF BULK AT MOST 1048576: true; the input reads as it did. -/
def fnPeriodAtUptoRow : OpenClaim := { program := "ytnfcljokgnebmaa", sum := "1e2cc6204b2d97e4d24749f80635b4bcce5ca1c8137730c58cef4a19576b0a16", func := "loop.example/bonddesk/laws.FnPeriodAt", spec := "fnPeriodAt", unfollowed := true, recurses := true, apart := false, narrowed := true }
def FnPeriodAtUptoSaid : Prop := fnPeriodAtUptoRow.holds Try.pinned (OpenSpec.upto fnPeriodAtSpec)

/-- 'laws.FnAddBusinessCount', WHERE WHAT IT READS IS OF BULK AT MOST 1048576: true; the input reads as it did. -/
def fnAddBusinessCountUptoRow : OpenClaim := { program := "ytnfcljokgnebmaa", sum := "1e2cc6204b2d97e4d24749f80635b4bcce5ca1c8137730c58cef4a19576b0a16", func := "loop.example/bonddesk/laws.FnAddBusinessCount", spec := "fnAddBusinessCount", apart := false, narrowed := true }
def FnAddBusinessCountUptoSaid : Prop := fnAddBusinessCountUptoRow.holds Try.pinned (OpenSpec.upto fnAddBusinessCountSpec)

end Rows
end Go.Proofs.Ytnfcljokgnebmaa
