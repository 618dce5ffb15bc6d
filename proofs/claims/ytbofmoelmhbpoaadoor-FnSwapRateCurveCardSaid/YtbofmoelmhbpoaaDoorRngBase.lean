/-
  What the printed Lean functions of ranges are, over pairs of whole numbers. Conditions: they stand in each theorem.
-/
import Derived.Test.YtbofmoelmhbpoaaDoorExtErr
import Derived.Test.YtbofmoelmhbpoaaDoorQx5
import Derived.Test.YtbofmoelmhbpoaaDoorQx7
import Derived.Test.YtbofmoelmhbpoaaDoorRng
namespace Go.Proofs.YtbofmoelmhbpoaaDoor.Rng
open Go.RowKit Go.Proofs.YtbofmoelmhbpoaaDoor.Q Go.Proofs.YtbofmoelmhbpoaaDoorW.PrintWords Go.Proofs.YtbofmoelmhbpoaaDoorW.PrintLast

theorem checked_is (a b : Int) : impl_Range_checked.f a b = some (if okR a b = true then (a, b, none) else (0, 0, some 0)) := by
  unfold impl_Range_checked.f
  by_cases h : okR a b = true
  · rw [if_pos h, if_pos (okR_iff.1 h)]
  · rw [if_neg h, if_neg (fun e => h (okR_iff.2 e))]
theorem told_is (a b : Int) (e : Option Int) : impl_told.f a b e = some (if e.isNone = true then (a, b, true) else (0, 0, false)) := rfl
theorem inRange_eq (n a b : Int) : spec_inRange.f n a b = some (decide (a ≤ n ∧ n ≤ b)) := by
  unfold spec_inRange.f
  by_cases h : a ≤ n
  · rw [if_pos h]
    congr 1
    simp [h]
  · rw [if_neg h]
    congr 1
    simp [h]
theorem impl_valid (a b : Int) : impl_ValidRange.f a b = some (okR a b) := by
  unfold impl_ValidRange.f
  rw [checked_is]
  simp only [Option.bind_some]
  by_cases h : okR a b = true
  · rw [if_pos h, if_pos (by rfl), h]
  · rw [if_neg h, if_neg (by decide)]
    simpa using h
/-- What the three results behind 'checked' are, told. -/
theorem told_lim (a b : Int) : (if (if okR a b = true then ((a, b, none) : Int × Int × Option Int) else (0, 0, some 0)).2.2.isNone = true then ((if okR a b = true then ((a, b, none) : Int × Int × Option Int) else (0, 0, some 0)).1, (if okR a b = true then ((a, b, none) : Int × Int × Option Int) else (0, 0, some 0)).2.1, true) else (0, 0, false)) = lim a b := by
  unfold lim
  by_cases h : okR a b = true
  · simp [h]
  · simp [h]
end Go.Proofs.YtbofmoelmhbpoaaDoor.Rng
