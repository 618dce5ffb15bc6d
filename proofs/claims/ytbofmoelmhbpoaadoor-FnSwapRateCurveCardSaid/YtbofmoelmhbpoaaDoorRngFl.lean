/-
  What the printed Lean functions of ranges are, over pairs of whole numbers. Conditions: they stand in each theorem.
-/
import Derived.Test.YtbofmoelmhbpoaaDoorQx2
import Derived.Test.YtbofmoelmhbpoaaDoorQx5
import Derived.Test.YtbofmoelmhbpoaaDoorRngBase
namespace Go.Proofs.YtbofmoelmhbpoaaDoor.Rng
open Go.RowKit Go.Proofs.YtbofmoelmhbpoaaDoor.Q Go.Proofs.YtbofmoelmhbpoaaDoorW.PrintWords Go.Proofs.YtbofmoelmhbpoaaDoorW.PrintLast

theorem floor_is (n b : Int) (hb : 0 < b) (h0 : -9223372036854775807 ≤ n) (h1 : n ≤ 9223372036854775807) : impl_floor.f n b = some (n / b) := fl_eq n b hb h0 h1
theorem floorDiv_is (n b : Int) (hb : 0 < b) (h0 : -9223372036854775807 ≤ n) (h1 : n ≤ 9223372036854775807) : spec_floorDiv.f n b = some (n / b) := fl_eq n b hb h0 h1
theorem cdv_in (n b : Int) (hb : 0 < b) (h0 : -9223372036854775807 ≤ n) (h1 : n ≤ 9223372036854775807) : -9223372036854775808 ≤ -(-n / b) ∧ -(-n / b) ≤ 9223372036854775807 := by
  rcases Int.le_total 0 (-n) with h | h
  · have := Int.ediv_le_self b h
    have := Int.ediv_nonneg h (show (0 : Int) ≤ b by omega)
    omega
  · have h3 : -n ≤ -n / b := by
      refine le_dv hb ?_
      have : b * -n ≤ 1 * -n := Int.mul_le_mul_of_nonpos_right (by omega) h
      omega
    have h4 : -n / b ≤ 0 := dv_le hb (by omega)
    omega
theorem ceil_is (n b : Int) (hb : 0 < b) (h0 : -9223372036854775807 ≤ n) (h1 : n ≤ 9223372036854775807) : impl_ceil.f n b = some (cdv n b) := by
  unfold impl_ceil.f
  rw [w64 (by omega) (by omega), floor_is _ _ hb (by omega) (by omega)]
  simp only [Option.bind_some]
  have := cdv_in n b hb h0 h1
  rw [w64 (by omega) (by omega)]
  rfl
theorem ceilDiv_is (n b : Int) (hb : 0 < b) (h0 : -9223372036854775807 ≤ n) (h1 : n ≤ 9223372036854775807) : spec_ceilDiv.f n b = some (cdv n b) := by
  unfold spec_ceilDiv.f
  rw [w64 (by omega) (by omega), floorDiv_is _ _ hb (by omega) (by omega)]
  simp only [Option.bind_some]
  have := cdv_in n b hb h0 h1
  rw [w64 (by omega) (by omega)]
  rfl
end Go.Proofs.YtbofmoelmhbpoaaDoor.Rng
