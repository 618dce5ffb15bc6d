/-
  What the printed Lean functions of ranges are, over pairs of whole numbers. Conditions: they stand in each theorem.
-/
import Derived.Test.YtbofmoelmhbpoaaDoorQx8
import Derived.Test.YtbofmoelmhbpoaaDoorRngBase
namespace Go.Proofs.YtbofmoelmhbpoaaDoor.Rng
open Go.RowKit Go.Proofs.YtbofmoelmhbpoaaDoor.Q Go.Proofs.YtbofmoelmhbpoaaDoorW.PrintWords Go.Proofs.YtbofmoelmhbpoaaDoorW.PrintLast

theorem impl_in (a b n : Int) : impl_InRange.f a b n = some (decide (okR a b = true ∧ a ≤ n ∧ n ≤ b)) := by
  unfold impl_InRange.f
  rw [impl_valid]
  simp only [Option.bind_some]
  by_cases h : okR a b = true
  · rw [if_pos h, within_eq]
    simp [h]
  · rw [if_neg h]
    simp [h]
end Go.Proofs.YtbofmoelmhbpoaaDoor.Rng
