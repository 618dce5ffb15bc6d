/-
  What the package variable errRange holds when a call begins (one error of errors.New's make, at the address Sent.a), as a fact on the world that later calls keep. Conditions: none.
-/
import Derived.Test.YtbofmoelmhbpoaaDoorQx0
import Derived.Below
import Derived.RowKit
namespace Go.Proofs.YtbofmoelmhbpoaaDoor.Q
open Go.RowKit

/-- The variable's cell. -/
def Tab [Sent] (w : World) : Prop := w.cell? ⟨0, 0, none⟩ = some (.iface 91 (.pointer (some Sent.a)))
theorem Tab.below [Sent] {w w1 : World} (h : Tab w) (hb : Below w.heap.size w w1) : Tab w1 :=
  (hb.cell (World.block_lt_of_cell? w _ h)).trans h
end Go.Proofs.YtbofmoelmhbpoaaDoor.Q
