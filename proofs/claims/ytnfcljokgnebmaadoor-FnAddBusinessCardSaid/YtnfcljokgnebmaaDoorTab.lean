/-
  What the package variable monthDays holds when a call begins, as a fact on the world that later calls keep. Conditions: none.
-/
import Derived.Below
import Derived.RowKit
namespace Go.Proofs.YtnfcljokgnebmaaDoor.Q
open Go.RowKit

def mdays : List Int := [31, 28, 31, 30, 31, 30, 31, 31, 30, 31, 30, 31]
/-- The table lies in the variable's block. -/
def Tab (w : World) : Prop := ∀ i, i < 12 → w.cell? ⟨0, i, none⟩ = some (.int .i64 (mdays.getD i 0))
theorem Tab.below {w w1 : World} (h : Tab w) (hb : Below w.heap.size w w1) : Tab w1 := fun i hi =>
  (hb.cell (World.block_lt_of_cell? w _ (h i hi))).trans (h i hi)
end Go.Proofs.YtnfcljokgnebmaaDoor.Q
