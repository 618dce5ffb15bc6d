/-
  What the printed Lean functions of ranges are, over pairs of whole numbers. Conditions: they stand in each theorem.
-/
import Derived.Test.YtemigniflobdcaaDoorQx2
import Derived.Test.YtemigniflobdcaaDoorQx5
import Derived.Test.YtemigniflobdcaaDoorQx6
import Derived.Test.YtemigniflobdcaaDoorRngBase
namespace Go.Proofs.YtemigniflobdcaaDoor.Rng
open Go.RowKit Go.Proofs.YtemigniflobdcaaDoor.Q Go.Proofs.YtemigniflobdcaaDoorW.PrintWords Go.Proofs.YtemigniflobdcaaDoorW.PrintLast

theorem spec_Valid (a b : Int) : spec_ValidRange.f a b = some (okR a b) := by
  unfold spec_ValidRange.f
  rw [spec_valid]
  rfl
theorem impl_in (a b n : Int) : impl_InRange.f a b n = some (decide (okR a b = true ∧ a ≤ n ∧ n ≤ b)) := by
  unfold impl_InRange.f
  rw [impl_valid]
  simp only [Option.bind_some]
  by_cases h : okR a b = true
  · rw [if_pos h, within_eq]
    simp [h]
  · rw [if_neg h]
    simp [h]
theorem spec_in (a b n : Int) : spec_InRange.f a b n = some (decide (okR a b = true ∧ a ≤ n ∧ n ≤ b)) := by
  unfold spec_InRange.f
  rw [spec_valid]
  simp only [Option.bind_some]
  by_cases h : okR a b = true
  · rw [if_pos h, inRange_eq]
    simp [h]
  · rw [if_neg h]
    simp [h]
end Go.Proofs.YtemigniflobdcaaDoor.Rng
